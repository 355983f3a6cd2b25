import PyProof.Rows.All
import Wide.All
import OpenK.AllK
import Wide.FinOn
import HandS.ForMost
import HandS.TryOnly
import HandS.ExcOwn
import HandS.WordsExc
import HandS.TryMany
import HandS.Walk
import HandS.Remove
import HandS.Lambda
import HandS.EndTab
import HandS.AnyAll
import HandS.More
import HandS.Conv
import HandS.SetFor
import HandS.Codes
import HandS.HeadWalk
import HandS.HeadHook4
import HandS.Head0
import HandS.Head1
import HandS.Head2
import HandS.HeadEnd
import PySem.Challenge.RW_crossloom_k27_slots_of_lines_exchanged
import KE.GoesEnum
/-! ## KMath -/
/-! The plain laws: calls of a net of three rows, the exchange of two middle ones along a way, nothing of Python. -/
namespace Clx
/-- a call: gate in, gate out, middle one -/
structure Call where
  one : Int
  goal : Int
  mid : Int
  deriving DecidableEq
/-- the switch of a side: 0 in, else out -/
def swt (g side : Int) (e : Call) : Int := if side = 0 then e.one / g else e.goal / g
theorem swt0 (g : Int) (e : Call) : swt g 0 e = e.one / g := if_pos rfl
theorem swt1 (g : Int) (e : Call) : swt g 1 e = e.goal / g := if_neg (by decide)
/-- sound: gates once, in bounds, no switch with two calls by one middle one -/
structure Good (m g s : Int) (c : List Call) : Prop where
  key : (c.map Call.one).Nodup
  gol : (c.map Call.goal).Nodup
  bd : ∀ e ∈ c, 0 ≤ e.one ∧ e.one < g * s ∧ 0 ≤ e.goal ∧ e.goal < g * s ∧ 0 ≤ e.mid ∧ e.mid < m
  sd : ∀ (side : Int), side = 0 ∨ side = 1 → ∀ e ∈ c, ∀ f ∈ c, swt g side e = swt g side f → e.mid = f.mid → e = f
theorem nodup_sub {α : Type} [DecidableEq α] : ∀ {l r : List α}, l.Nodup → (∀ x ∈ l, x ∈ r) → l.length ≤ r.length
  | [], _, _, _ => Nat.zero_le _
  | a :: l, r, h, hs => by
    have h1 := List.nodup_cons.mp h
    have ha : a ∈ r := hs a List.mem_cons_self
    have e := List.length_erase_of_mem ha
    have hr : 0 < r.length := List.length_pos_of_mem ha
    have h2 : l.length ≤ (r.erase a).length := nodup_sub h1.2 fun x hx => (List.mem_erase_of_ne (fun z => h1.1 (by rw [← z]; exact hx))).mpr (hs x (List.mem_cons_of_mem _ hx))
    rw [List.length_cons]
    omega
theorem nodup_map_of {α β : Type} {f : α → β} : ∀ {l : List α}, l.Nodup → (∀ x ∈ l, ∀ y ∈ l, f x = f y → x = y) → (l.map f).Nodup
  | [], _, _ => List.nodup_nil
  | a :: l, h, hi => by
    have h1 := List.nodup_cons.mp h
    rw [List.map_cons]
    refine List.nodup_cons.mpr ⟨fun hm => ?_, nodup_map_of h1.2 fun x hx y hy => hi x (List.mem_cons_of_mem _ hx) y (List.mem_cons_of_mem _ hy)⟩
    obtain ⟨b, hb, e⟩ := List.mem_map.mp hm
    have := hi b (List.mem_cons_of_mem _ hb) a List.mem_cons_self e
    exact h1.1 (this ▸ hb)
theorem map_nodup {α β : Type} {f : α → β} : ∀ {l : List α}, (l.map f).Nodup → l.Nodup
  | [], _ => List.nodup_nil
  | a :: l, h => by
    rw [List.map_cons] at h
    have h1 := List.nodup_cons.mp h
    exact List.nodup_cons.mpr ⟨fun hm => h1.1 (List.mem_map_of_mem hm), map_nodup h1.2⟩
theorem map_inj_on {α β : Type} {f : α → β} : ∀ {l : List α}, (l.map f).Nodup → ∀ x ∈ l, ∀ y ∈ l, f x = f y → x = y
  | [], _, x, hx, _, _, _ => by cases hx
  | a :: l, h, x, hx, y, hy, e => by
    rw [List.map_cons] at h
    have h1 := List.nodup_cons.mp h
    rcases List.mem_cons.mp hx with rfl | hx'
    · rcases List.mem_cons.mp hy with rfl | hy'
      · rfl
      · exact (h1.1 (e ▸ List.mem_map_of_mem hy')).elim
    · rcases List.mem_cons.mp hy with rfl | hy'
      · exact (h1.1 (e ▸ List.mem_map_of_mem hx')).elim
      · exact map_inj_on h1.2 x hx' y hy' e
section
variable {m g s : Int} {c : List Call}
theorem Good.nd (G : Good m g s c) : c.Nodup := map_nodup G.key
theorem Good.oneEq (G : Good m g s c) {e f : Call} (he : e ∈ c) (hf : f ∈ c) (h : e.one = f.one) : e = f := map_inj_on G.key e he f hf h
theorem Good.goalEq (G : Good m g s c) {e f : Call} (he : e ∈ c) (hf : f ∈ c) (h : e.goal = f.goal) : e = f := map_inj_on G.gol e he f hf h
theorem Good.inn (G : Good m g s c) {e f : Call} (he : e ∈ c) (hf : f ∈ c) (h : e.one / g = f.one / g) (hm : e.mid = f.mid) : e = f := G.sd 0 (.inl rfl) e he f hf (by rw [swt0, swt0]; exact h) hm
theorem Good.out (G : Good m g s c) {e f : Call} (he : e ∈ c) (hf : f ∈ c) (h : e.goal / g = f.goal / g) (hm : e.mid = f.mid) : e = f := G.sd 1 (.inr rfl) e he f hf (by rw [swt1, swt1]; exact h) hm
theorem good_nil : Good m g s [] := ⟨List.nodup_nil, List.nodup_nil, fun _ h => (by cases h), fun _ _ _ h => (by cases h)⟩
end
/-! ### the way -/
/-- the i-th side of a way that begins at a switch out: 1, 0, 1, .. -/
def sideAt (i : Nat) : Int := if i % 2 = 0 then 1 else 0
def numAt (a b : Int) (i : Nat) : Int := if i % 2 = 0 then a else b
theorem sideAt_two (i : Nat) : sideAt i = 0 ∨ sideAt i = 1 := by
  unfold sideAt
  split
  · exact .inr rfl
  · exact .inl rfl
/-- the switch at which the i-th call of the way is looked for -/
def swAt (g st : Int) (es : List Call) (i : Nat) : Int := match i with
  | 0 => st
  | j + 1 => match es[j]? with
    | some e => swt g (sideAt (j + 1)) e
    | none => st
/-- es is a way of calls in c from the switch out st, by a, b, a, .. -/
structure Way (g : Int) (c : List Call) (st a b : Int) (es : List Call) : Prop where
  mem : ∀ e ∈ es, e ∈ c
  num : ∀ (i : Nat) e, es[i]? = some e → e.mid = numAt a b i
  sw : ∀ (i : Nat) e, es[i]? = some e → swt g (sideAt i) e = swAt g st es i
theorem way_nil {g : Int} {c : List Call} {st a b : Int} : Way g c st a b [] := ⟨fun _ h => (by cases h), fun i e h => by simp at h, fun i e h => by simp at h⟩
theorem swAt_snoc {g st : Int} {es : List Call} {e : Call} {i : Nat} (h : i ≤ es.length) : swAt g st (es ++ [e]) i = swAt g st es i := by
  cases i with
  | zero => rfl
  | succ j =>
    show (match (es ++ [e])[j]? with | some e => _ | none => _) = (match es[j]? with | some e => _ | none => _)
    rw [List.getElem?_append_left (by omega)]
theorem Way.snoc {g : Int} {c : List Call} {st a b : Int} {es : List Call} {e : Call} (W : Way g c st a b es) (he : e ∈ c) (hn : e.mid = numAt a b es.length) (hs : swt g (sideAt es.length) e = swAt g st es es.length) : Way g c st a b (es ++ [e]) := by
  have key : ∀ (i : Nat) f, (es ++ [e])[i]? = some f → (i < es.length ∧ es[i]? = some f) ∨ (i = es.length ∧ f = e) := fun i f h => by
    by_cases hi : i < es.length
    · rw [List.getElem?_append_left hi] at h
      exact .inl ⟨hi, h⟩
    · rw [List.getElem?_append_right (by omega)] at h
      have : i - es.length = 0 := by
        have := (List.getElem?_eq_some_iff.mp h).1
        simp at this
        omega
      rw [this] at h
      exact .inr ⟨by omega, (Option.some.inj h).symm⟩
  refine ⟨fun f hf => ?_, fun i f h => ?_, fun i f h => ?_⟩
  · rcases List.mem_append.mp hf with h | h
    · exact W.mem f h
    · rw [List.mem_singleton.mp h]
      exact he
  · rcases key i f h with ⟨_, h'⟩ | ⟨rfl, rfl⟩
    · exact W.num i f h'
    · exact hn
  · rcases key i f h with ⟨hi, h'⟩ | ⟨rfl, rfl⟩
    · rw [swAt_snoc (by omega)]
      exact W.sw i f h'
    · rw [swAt_snoc (Nat.le_refl _)]
      exact hs
theorem numAt_par {a b : Int} (h : a ≠ b) {i j : Nat} (e : numAt a b i = numAt a b j) : i % 2 = j % 2 := by
  unfold numAt at e
  split at e <;> split at e <;> first | omega | exact (h e).elim | exact (h e.symm).elim
theorem sideAt_par {i j : Nat} (h : i % 2 = j % 2) : sideAt i = sideAt j := by
  unfold sideAt
  rw [h]
theorem numAt_par2 {a b : Int} {i j : Nat} (h : i % 2 = j % 2) : numAt a b i = numAt a b j := by
  unfold numAt
  rw [h]
section
variable {m g s : Int} {c : List Call} {st a b : Int} {es : List Call}
theorem way_ne (G : Good m g s c) (W : Way g c st a b es) (hab : a ≠ b) (hb : ∀ e ∈ c, e.goal / g = st → e.mid ≠ b) :
    ∀ (i j : Nat) e f, i < j → es[i]? = some e → es[j]? = some f → e ≠ f := by
  intro i
  induction i with
  | zero =>
    intro j e f hij hi hj hef
    subst hef
    have hp : 0 % 2 = j % 2 := numAt_par hab ((W.num 0 e hi).symm.trans (W.num j e hj))
    obtain ⟨k, rfl⟩ : ∃ k, j = k + 1 := ⟨j - 1, by omega⟩
    have hk : k < es.length := by
      have := (List.getElem?_eq_some_iff.mp hj).1
      omega
    obtain ⟨f', hf'⟩ : ∃ f', es[k]? = some f' := ⟨es[k], List.getElem?_eq_getElem hk⟩
    have h1 := W.sw (k + 1) e hj
    have h0 := W.sw 0 e hi
    have es1 : sideAt (k + 1) = 1 := by
      unfold sideAt
      rw [if_pos (by omega)]
    have es0 : sideAt 0 = 1 := rfl
    rw [es0] at h0
    rw [es1] at h1
    have h2 : swAt g st es (k + 1) = swt g (sideAt (k + 1)) f' := by
      show (match es[k]? with | some e => _ | none => _) = _
      rw [hf']
    rw [h2, es1, swt1, swt1] at h1
    have h3 : swAt g st es 0 = st := rfl
    rw [h3, swt1] at h0
    have h4 := W.num k f' hf'
    have h5 : numAt a b k = b := by
      unfold numAt
      rw [if_neg (by omega)]
    exact hb f' (W.mem f' (List.mem_of_getElem? hf')) (h1.symm.trans h0) (h4.trans h5)
  | succ i ih =>
    intro j e f hij hi hj hef
    subst hef
    have hp : (i + 1) % 2 = j % 2 := numAt_par hab ((W.num _ e hi).symm.trans (W.num j e hj))
    obtain ⟨k, rfl⟩ : ∃ k, j = k + 1 := ⟨j - 1, by omega⟩
    have hk : k < es.length := by
      have := (List.getElem?_eq_some_iff.mp hj).1
      omega
    obtain ⟨f', hf'⟩ : ∃ f', es[k]? = some f' := ⟨es[k], List.getElem?_eq_getElem hk⟩
    obtain ⟨e', he'⟩ : ∃ e', es[i]? = some e' := ⟨es[i], List.getElem?_eq_getElem (by omega)⟩
    have h1 := W.sw (k + 1) e hj
    have h0 := W.sw (i + 1) e hi
    have h2 : swAt g st es (k + 1) = swt g (sideAt (k + 1)) f' := by
      show (match es[k]? with | some e => _ | none => _) = _
      rw [hf']
    have h3 : swAt g st es (i + 1) = swt g (sideAt (i + 1)) e' := by
      show (match es[i]? with | some e => _ | none => _) = _
      rw [he']
    rw [h2] at h1
    rw [h3, sideAt_par hp] at h0
    have h4 : e'.mid = f'.mid := by
      rw [W.num i e' he', W.num k f' hf']
      exact numAt_par2 (by omega)
    have h5 := G.sd (sideAt (k + 1)) (sideAt_two _) e' (W.mem e' (List.mem_of_getElem? he')) f' (W.mem f' (List.mem_of_getElem? hf')) (h0.symm.trans h1) h4
    exact ih k e' f' (by omega) he' hf' h5
theorem nodup_of_ne {α : Type} {l : List α} (h : ∀ (i j : Nat) e f, i < j → l[i]? = some e → l[j]? = some f → e ≠ f) : l.Nodup := by
  rw [List.nodup_iff_pairwise_ne, List.pairwise_iff_getElem]
  intro i j hi hj hij
  exact h i j _ _ hij (List.getElem?_eq_getElem hi) (List.getElem?_eq_getElem hj)
theorem way_nodup (G : Good m g s c) (W : Way g c st a b es) (hab : a ≠ b) (hb : ∀ e ∈ c, e.goal / g = st → e.mid ≠ b) : es.Nodup := nodup_of_ne (way_ne G W hab hb)
theorem way_len (G : Good m g s c) (W : Way g c st a b es) (hab : a ≠ b) (hb : ∀ e ∈ c, e.goal / g = st → e.mid ≠ b) : es.length ≤ c.length := nodup_sub (way_nodup G W hab hb) W.mem
/-- the other one of two -/
def opp (a b k : Int) : Int := if k = a then b else a
theorem opp_num {a b : Int} (hab : a ≠ b) (i : Nat) : opp a b (numAt a b i) = numAt a b (i + 1) := by
  unfold opp numAt
  by_cases h : i % 2 = 0
  · rw [if_pos h, if_pos rfl, if_neg (by omega)]
  · rw [if_neg h, if_neg (fun z => hab z.symm), if_pos (by omega)]
theorem sideAt_succ (i : Nat) (side : Int) (h : side = 0 ∨ side = 1) (hn : side ≠ sideAt i) : side = sideAt (i + 1) := by
  unfold sideAt at hn ⊢
  by_cases hi : i % 2 = 0
  · rw [if_pos hi] at hn
    rw [if_neg (by omega)]
    omega
  · rw [if_neg hi] at hn
    rw [if_pos (by omega)]
    omega
/-- behind the way's end: what shares a switch with a call of the way, by the other middle one, is of the way -/
theorem way_closed (G : Good m g s c) (W : Way g c st a b es) (hab : a ≠ b) (hb : ∀ e ∈ c, e.goal / g = st → e.mid ≠ b)
    (hend : ∀ e ∈ c, swt g (sideAt es.length) e = swAt g st es es.length → e.mid ≠ numAt a b es.length) :
    ∀ e ∈ es, ∀ f ∈ c, ∀ side : Int, side = 0 ∨ side = 1 → swt g side e = swt g side f → f.mid = opp a b e.mid → f ∈ es := by
  intro e he f hf side hs hsw hm
  obtain ⟨i, hi⟩ := List.mem_iff_getElem?.mp he
  rw [W.num i e hi, opp_num hab] at hm
  by_cases hside : side = sideAt i
  · cases i with
    | zero =>
      have e0 : sideAt 0 = 1 := rfl
      have h0 := W.sw 0 e hi
      rw [hside] at hsw
      rw [hsw] at h0
      rw [e0, swt1] at h0
      have h3 : swAt g st es 0 = st := rfl
      exact (hb f hf (h0.trans h3) hm).elim
    | succ j =>
      have hj : j < es.length := by
        have := (List.getElem?_eq_some_iff.mp hi).1
        omega
      obtain ⟨e', he'⟩ : ∃ e', es[j]? = some e' := ⟨es[j], List.getElem?_eq_getElem hj⟩
      have h0 := W.sw (j + 1) e hi
      have h3 : swAt g st es (j + 1) = swt g (sideAt (j + 1)) e' := by
        show (match es[j]? with | some e => _ | none => _) = _
        rw [he']
      rw [h3, ← hside] at h0
      have h4 : e'.mid = f.mid := by
        rw [W.num j e' he', hm]
        exact numAt_par2 (by omega)
      have := G.sd side hs e' (W.mem e' (List.mem_of_getElem? he')) f hf (h0.symm.trans hsw) h4
      rw [← this]
      exact List.mem_of_getElem? he'
  · have hs1 := sideAt_succ i side hs hside
    have hlen := (List.getElem?_eq_some_iff.mp hi).1
    have h3 : swAt g st es (i + 1) = swt g (sideAt (i + 1)) e := by
      show (match es[i]? with | some e => _ | none => _) = _
      rw [hi]
    by_cases hl : i + 1 < es.length
    · obtain ⟨e', he'⟩ : ∃ e', es[i + 1]? = some e' := ⟨es[i + 1], List.getElem?_eq_getElem hl⟩
      have h0 := W.sw (i + 1) e' he'
      rw [h3, ← hs1] at h0
      have h4 : e'.mid = f.mid := by rw [W.num (i + 1) e' he', hm]
      have := G.sd side hs e' (W.mem e' (List.mem_of_getElem? he')) f hf (h0.trans hsw) h4
      rw [← this]
      exact List.mem_of_getElem? he'
    · have el : es.length = i + 1 := by omega
      rw [el, h3, ← hs1] at hend
      exact (hend f hf hsw.symm hm).elim
/-- a call with its middle one exchanged, where its gate is told -/
def sw1 (a b : Int) (found : List Int) (e : Call) : Call := if e.one ∈ found then { e with mid := opp a b e.mid } else e
theorem sw1_one (a b : Int) (found : List Int) (e : Call) : (sw1 a b found e).one = e.one := by
  unfold sw1
  split <;> rfl
theorem sw1_goal (a b : Int) (found : List Int) (e : Call) : (sw1 a b found e).goal = e.goal := by
  unfold sw1
  split <;> rfl
theorem sw1_swt (a b : Int) (found : List Int) (side : Int) (e : Call) : swt g side (sw1 a b found e) = swt g side e := by
  unfold swt
  rw [sw1_one, sw1_goal]
theorem opp_two {a b k : Int} (h : k = a ∨ k = b) : opp a b k = a ∨ opp a b k = b := by
  unfold opp
  split
  · exact .inr rfl
  · exact .inl rfl
theorem opp_inj {a b k l : Int} (hk : k = a ∨ k = b) (hl : l = a ∨ l = b) (e : opp a b k = opp a b l) : k = l := by
  unfold opp at e
  split at e <;> split at e <;> omega
theorem opp_opp {a b k l : Int} (hk : k = a ∨ k = b) (e : l = opp a b k) : k = opp a b l := by
  unfold opp at e ⊢
  split at e <;> split <;> omega
theorem numAt_two (a b : Int) (i : Nat) : numAt a b i = a ∨ numAt a b i = b := by
  unfold numAt
  split
  · exact .inl rfl
  · exact .inr rfl
theorem way_two (W : Way g c st a b es) {e : Call} (he : e ∈ es) : e.mid = a ∨ e.mid = b := by
  obtain ⟨i, hi⟩ := List.mem_iff_getElem?.mp he
  rw [W.num i e hi]
  exact numAt_two a b i
theorem mem_found (G : Good m g s c) (W : Way g c st a b es) {e : Call} (he : e ∈ c) : e.one ∈ es.map Call.one ↔ e ∈ es := by
  constructor
  · intro h
    obtain ⟨f, hf, e1⟩ := List.mem_map.mp h
    rw [← G.oneEq (W.mem f hf) he e1]
    exact hf
  · exact fun h => List.mem_map_of_mem h
theorem sw1_in (G : Good m g s c) (W : Way g c st a b es) {e : Call} (he : e ∈ es) : (sw1 a b (es.map Call.one) e).mid = opp a b e.mid := by
  unfold sw1
  rw [if_pos ((mem_found G W (W.mem e he)).mpr he)]
theorem sw1_out (G : Good m g s c) (W : Way g c st a b es) {e : Call} (hc : e ∈ c) (he : e ∉ es) : sw1 a b (es.map Call.one) e = e := by
  unfold sw1
  rw [if_neg (fun z => he ((mem_found G W hc).mp z))]
theorem map_one_sw1 (a b : Int) (found : List Int) (c : List Call) : (c.map (sw1 a b found)).map Call.one = c.map Call.one := by
  rw [List.map_map]
  exact List.map_congr_left fun e _ => sw1_one a b found e
theorem map_goal_sw1 (a b : Int) (found : List Int) (c : List Call) : (c.map (sw1 a b found)).map Call.goal = c.map Call.goal := by
  rw [List.map_map]
  exact List.map_congr_left fun e _ => sw1_goal a b found e
/-- the exchange along a whole way keeps all sound -/
theorem good_sw (G : Good m g s c) (W : Way g c st a b es) (hab : a ≠ b) (ha : 0 ≤ a ∧ a < m) (hb0 : 0 ≤ b ∧ b < m) (hb : ∀ e ∈ c, e.goal / g = st → e.mid ≠ b)
    (hend : ∀ e ∈ c, swt g (sideAt es.length) e = swAt g st es es.length → e.mid ≠ numAt a b es.length) : Good m g s (c.map (sw1 a b (es.map Call.one))) := by
  refine ⟨by rw [map_one_sw1]; exact G.key, by rw [map_goal_sw1]; exact G.gol, fun e he => ?_, fun side hs e he f hf hsw hm => ?_⟩
  · obtain ⟨e0, h0, rfl⟩ := List.mem_map.mp he
    obtain ⟨h1, h2, h3, h4, h5, h6⟩ := G.bd e0 h0
    rw [sw1_one, sw1_goal]
    refine ⟨h1, h2, h3, h4, ?_⟩
    by_cases hi : e0 ∈ es
    · rw [sw1_in G W hi]
      rcases opp_two (way_two W hi) with z | z <;> rw [z]
      · exact ha
      · exact hb0
    · rw [sw1_out G W h0 hi]
      exact ⟨h5, h6⟩
  · obtain ⟨e0, h0, rfl⟩ := List.mem_map.mp he
    obtain ⟨f0, k0, rfl⟩ := List.mem_map.mp hf
    rw [sw1_swt, sw1_swt] at hsw
    have cl := way_closed G W hab hb hend
    have : e0 = f0 := by
      by_cases hi : e0 ∈ es
      · by_cases hj : f0 ∈ es
        · rw [sw1_in G W hi, sw1_in G W hj] at hm
          exact G.sd side hs e0 h0 f0 k0 hsw (opp_inj (way_two W hi) (way_two W hj) hm)
        · rw [sw1_in G W hi, sw1_out G W k0 hj] at hm
          exact (hj (cl e0 hi f0 k0 side hs hsw hm.symm)).elim
      · by_cases hj : f0 ∈ es
        · rw [sw1_out G W h0 hi, sw1_in G W hj] at hm
          exact (hi (cl f0 hj e0 h0 side hs hsw.symm hm)).elim
        · rw [sw1_out G W h0 hi, sw1_out G W k0 hj] at hm
          exact G.sd side hs e0 h0 f0 k0 hsw hm
    rw [this]
/-- behind it a is free at the switch in where it was free, and at the way's beginning -/
theorem sw_free_in (G : Good m g s c) (W : Way g c st a b es) (hab : a ≠ b) {h : Int} (hfree : ∀ e ∈ c, e.one / g = h → e.mid ≠ a) :
    ∀ e ∈ c.map (sw1 a b (es.map Call.one)), e.one / g = h → e.mid ≠ a := by
  intro e he h1 h2
  obtain ⟨e0, h0, rfl⟩ := List.mem_map.mp he
  rw [sw1_one] at h1
  by_cases hi : e0 ∈ es
  · obtain ⟨i, hx⟩ := List.mem_iff_getElem?.mp hi
    rw [sw1_in G W hi, W.num i e0 hx, opp_num hab] at h2
    have hp : i % 2 = 1 := by
      unfold numAt at h2
      split at h2
      · omega
      · exact (hab h2.symm).elim
    obtain ⟨j, rfl⟩ : ∃ j, i = j + 1 := ⟨i - 1, by omega⟩
    have hj : j < es.length := by
      have := (List.getElem?_eq_some_iff.mp hx).1
      omega
    obtain ⟨e', he'⟩ : ∃ e', es[j]? = some e' := ⟨es[j], List.getElem?_eq_getElem hj⟩
    have h3 := W.sw (j + 1) e0 hx
    have h4 : swAt g st es (j + 1) = swt g (sideAt (j + 1)) e' := by
      show (match es[j]? with | some e => _ | none => _) = _
      rw [he']
    have h5 : sideAt (j + 1) = 0 := by
      unfold sideAt
      rw [if_neg (by omega)]
    rw [h4, h5, swt0, swt0] at h3
    have h6 := W.num j e' he'
    have h7 : numAt a b j = a := by
      unfold numAt
      rw [if_pos (by omega)]
    exact hfree e' (W.mem e' (List.mem_of_getElem? he')) (h3.symm.trans h1) (h6.trans h7)
  · rw [sw1_out G W h0 hi] at h2
    exact hfree e0 h0 h1 h2
theorem sw_free_out (G : Good m g s c) (W : Way g c st a b es) (hab : a ≠ b) (hb : ∀ e ∈ c, e.goal / g = st → e.mid ≠ b)
    (hend : ∀ e ∈ c, swt g (sideAt es.length) e = swAt g st es es.length → e.mid ≠ numAt a b es.length) :
    ∀ e ∈ c.map (sw1 a b (es.map Call.one)), e.goal / g = st → e.mid ≠ a := by
  intro e he h1 h2
  obtain ⟨e0, h0, rfl⟩ := List.mem_map.mp he
  rw [sw1_goal] at h1
  by_cases hi : e0 ∈ es
  · rw [sw1_in G W hi] at h2
    have h3 : e0.mid = b := by
      rcases way_two W hi with z | z
      · rw [z] at h2
        unfold opp at h2
        rw [if_pos rfl] at h2
        exact (hab h2.symm).elim
      · exact z
    exact hb e0 h0 h1 h3
  · rw [sw1_out G W h0 hi] at h2
    cases es with
    | nil =>
      refine hend e0 h0 ?_ h2
      show swt g 1 e0 = st
      rw [swt1]
      exact h1
    | cons f r =>
      have hx : (f :: r)[0]? = some f := rfl
      have h3 := W.sw 0 f hx
      have h4 := W.num 0 f hx
      have h5 : swt g 1 f = st := h3
      have h6 : f.mid = a := h4
      rw [swt1] at h5
      have := G.out (W.mem f List.mem_cons_self) h0 (h5.trans h1.symm) (h6.trans h2.symm)
      exact hi (this ▸ List.mem_cons_self)
/-- a new call by a middle one that is free at both ends -/
theorem good_snoc {e : Call} (G : Good m g s c) (h1 : 0 ≤ e.one ∧ e.one < g * s) (h2 : 0 ≤ e.goal ∧ e.goal < g * s) (h3 : 0 ≤ e.mid ∧ e.mid < m) (hk : ∀ f ∈ c, f.one ≠ e.one) (hg : ∀ f ∈ c, f.goal ≠ e.goal)
    (hi : ∀ f ∈ c, f.one / g = e.one / g → f.mid ≠ e.mid) (ho : ∀ f ∈ c, f.goal / g = e.goal / g → f.mid ≠ e.mid) : Good m g s (c ++ [e]) := by
  have nd : ∀ {f : Call → Int} (_ : (c.map f).Nodup) (_ : ∀ x ∈ c, f x ≠ f e), ((c ++ [e]).map f).Nodup := fun {f} n hn => by
    rw [List.map_append, List.nodup_append]
    refine ⟨n, by simp, fun x hx y hy => ?_⟩
    obtain ⟨z, hz, rfl⟩ := List.mem_map.mp hx
    have : y = f e := by simpa using hy
    rw [this]
    exact hn z hz
  refine ⟨nd G.key hk, nd G.gol hg, fun f hf => ?_, fun side hs x hx y hy hsw hm => ?_⟩
  · rcases List.mem_append.mp hf with h | h
    · exact G.bd f h
    · rw [List.mem_singleton.mp h]
      exact ⟨h1.1, h1.2, h2.1, h2.2, h3.1, h3.2⟩
  · have no : ∀ z ∈ c, swt g side z = swt g side e → z.mid ≠ e.mid := fun z hz hzs => by
      rcases hs with rfl | rfl
      · rw [swt0, swt0] at hzs
        exact hi z hz hzs
      · rw [swt1, swt1] at hzs
        exact ho z hz hzs
    rcases List.mem_append.mp hx with h | h
    · rcases List.mem_append.mp hy with k | k
      · exact G.sd side hs x h y k hsw hm
      · rw [List.mem_singleton.mp k] at hsw hm
        exact (no x h hsw hm).elim
    · rw [List.mem_singleton.mp h] at hsw hm ⊢
      rcases List.mem_append.mp hy with k | k
      · exact (no y k hsw.symm hm.symm).elim
      · exact (List.mem_singleton.mp k).symm
theorem good_filter {p : Call → Bool} (G : Good m g s c) : Good m g s (c.filter p) :=
  ⟨(List.filter_sublist.map Call.one).nodup G.key, (List.filter_sublist.map Call.goal).nodup G.gol, fun e he => G.bd e (List.mem_filter.mp he).1, fun side hs e he f hf => G.sd side hs e (List.mem_filter.mp he).1 f (List.mem_filter.mp hf).1⟩
end
/-! ### counting -/
section
variable {m g s : Int} {c : List Call}
theorem div_between {g x h : Int} (hg : 0 < g) (e : x / g = h) : h * g ≤ x ∧ x < h * g + g := by
  have h1 := Int.mul_ediv_add_emod x g
  have h2 := Int.emod_nonneg x (Int.ne_of_gt hg)
  have h3 := Int.emod_lt_of_pos x hg
  rw [e, Int.mul_comm] at h1
  omega
/-- the gates of a switch -/
def gatesOf (g h : Int) : List Int := (List.range g.toNat).map fun (i : Nat) => h * g + (i : Int)
theorem mem_gatesOf {g h x : Int} (hg : 0 < g) (e : x / g = h) : x ∈ gatesOf g h := by
  obtain ⟨h1, h2⟩ := div_between hg e
  exact List.mem_map.mpr ⟨(x - h * g).toNat, List.mem_range.mpr (by omega), by omega⟩
theorem gatesOf_len (g h : Int) : (gatesOf g h).length = g.toNat := by simp [gatesOf]
/-- of a switch with a gate that has no call at most one less than its gates have one -/
theorem few {f : Call → Int} {x : Int} (hg : 0 < g) (hf : (c.map f).Nodup) (hx : ∀ e ∈ c, f e ≠ x) : (c.filter fun e => decide (f e / g = x / g)).length + 1 ≤ g.toNat := by
  have h1 : (x :: (c.filter fun e => decide (f e / g = x / g)).map f).Nodup := by
    refine List.nodup_cons.mpr ⟨fun hm => ?_, (List.filter_sublist.map f).nodup hf⟩
    obtain ⟨e, he, e1⟩ := List.mem_map.mp hm
    exact hx e (List.mem_filter.mp he).1 e1
  have h2 := nodup_sub (r := gatesOf g (x / g)) h1 fun y hy => by
    rcases List.mem_cons.mp hy with rfl | hy
    · exact mem_gatesOf hg rfl
    · obtain ⟨e, he, rfl⟩ := List.mem_map.mp hy
      exact mem_gatesOf hg (of_decide_eq_true (List.mem_filter.mp he).2)
  rw [gatesOf_len, List.length_cons, List.length_map] at h2
  exact h2
/-- a number below m that is not told, where less than m are told -/
theorem free_ex {l : List Int} (h : l.length < m.toNat) : ∃ k, 0 ≤ k ∧ k < m ∧ k ∉ l := by
  refine Classical.byContradiction fun hn => ?_
  have h1 : ∀ k : Int, 0 ≤ k → k < m → k ∈ l := fun k a b => Classical.byContradiction fun z => hn ⟨k, a, b, z⟩
  have h2 := nodup_sub (l := (List.range m.toNat).map fun (i : Nat) => (i : Int)) (r := l) (nodup_map_of List.nodup_range fun x _ y _ e => by omega) fun k hk => by
    obtain ⟨i, hi, rfl⟩ := List.mem_map.mp hk
    have := List.mem_range.mp hi
    exact h1 _ (by omega) (by omega)
  rw [List.length_map, List.length_range] at h2
  omega
/-- the middle ones of a switch in, out -/
def usedIn (g : Int) (c : List Call) (h : Int) : List Int := (c.filter fun e => decide (e.one / g = h)).map Call.mid
def usedOut (g : Int) (c : List Call) (h : Int) : List Int := (c.filter fun e => decide (e.goal / g = h)).map Call.mid
theorem mem_usedIn {h k : Int} : k ∈ usedIn g c h ↔ ∃ e ∈ c, e.one / g = h ∧ e.mid = k := by
  unfold usedIn
  rw [List.mem_map]
  constructor
  · rintro ⟨e, he, rfl⟩
    obtain ⟨h1, h2⟩ := List.mem_filter.mp he
    exact ⟨e, h1, of_decide_eq_true h2, rfl⟩
  · rintro ⟨e, he, h1, rfl⟩
    exact ⟨e, List.mem_filter.mpr ⟨he, decide_eq_true h1⟩, rfl⟩
theorem mem_usedOut {h k : Int} : k ∈ usedOut g c h ↔ ∃ e ∈ c, e.goal / g = h ∧ e.mid = k := by
  unfold usedOut
  rw [List.mem_map]
  constructor
  · rintro ⟨e, he, rfl⟩
    obtain ⟨h1, h2⟩ := List.mem_filter.mp he
    exact ⟨e, h1, of_decide_eq_true h2, rfl⟩
  · rintro ⟨e, he, h1, rfl⟩
    exact ⟨e, List.mem_filter.mpr ⟨he, decide_eq_true h1⟩, rfl⟩
theorem free_in {x : Int} (hg : 0 < g) (hm : g ≤ m) (G : Good m g s c) (hx : ∀ e ∈ c, e.one ≠ x) : ∃ k, 0 ≤ k ∧ k < m ∧ k ∉ usedIn g c (x / g) := by
  refine free_ex ?_
  have h1 := few (f := Call.one) hg G.key hx
  unfold usedIn
  rw [List.length_map]
  omega
theorem free_out {x : Int} (hg : 0 < g) (hm : g ≤ m) (G : Good m g s c) (hx : ∀ e ∈ c, e.goal ≠ x) : ∃ k, 0 ≤ k ∧ k < m ∧ k ∉ usedOut g c (x / g) := by
  refine free_ex ?_
  have h1 := few (f := Call.goal) hg G.gol hx
  unfold usedOut
  rw [List.length_map]
  omega
theorem free_both {x y : Int} (hg : 0 < g) (hm : 2 * g - 1 ≤ m) (G : Good m g s c) (hx : ∀ e ∈ c, e.one ≠ x) (hy : ∀ e ∈ c, e.goal ≠ y) : ∃ k, 0 ≤ k ∧ k < m ∧ k ∉ usedIn g c (x / g) ∧ k ∉ usedOut g c (y / g) := by
  have h1 := few (f := Call.one) hg G.key hx
  have h2 := few (f := Call.goal) hg G.gol hy
  obtain ⟨k, a, b, n⟩ := free_ex (m := m) (l := usedIn g c (x / g) ++ usedOut g c (y / g)) (by
    unfold usedIn usedOut
    rw [List.length_append, List.length_map, List.length_map]
    omega)
  exact ⟨k, a, b, fun z => n (List.mem_append_left _ z), fun z => n (List.mem_append_right _ z)⟩
theorem good_len (G : Good m g s c) (h : g * s ≤ 9) : c.length ≤ 9 := by
  have h1 := nodup_sub (r := (List.range 9).map fun (i : Nat) => (i : Int)) G.key fun x hx => by
    obtain ⟨e, he, rfl⟩ := List.mem_map.mp hx
    obtain ⟨h1, h2, _⟩ := G.bd e he
    exact List.mem_map.mpr ⟨e.one.toNat, List.mem_range.mpr (by omega), by omega⟩
  rw [List.length_map, List.length_map, List.length_range] at h1
  exact h1
end
end Clx
/-! ## K0 -/
set_option Elab.async false
set_option linter.all false
set_option maxRecDepth 100000
set_option maxHeartbeats 4000000
/-! ### the text by places; what stands in the heap -/
namespace Clx
open PySem PySem.Spec PyProof.Rows L2
def top (i : Nat) : Stmt := PySem.Challenge.pw_crossloom_k27_slots_of_lines_exchanged.main.body.getD i (.Pass ⟨0, 0, 0, 0⟩)
abbrev cClos : Stmt := top 13
abbrev cExch : Stmt := top 15
abbrev sCInit : Stmt := inClass cClos 0
abbrev sSize : Stmt := inClass cClos 1
abbrev sCheck : Stmt := inClass cClos 2
abbrev sEnds : Stmt := inClass cClos 3
abbrev sUsedIn : Stmt := inClass cClos 4
abbrev sUsedOut : Stmt := inClass cClos 5
abbrev sFreeM : Stmt := inClass cClos 6
abbrev sEnd : Stmt := inClass cClos 9
abbrev sPutM : Stmt := inClass cClos 10
abbrev sExchange : Stmt := inClass cClos 11
abbrev sAt : Stmt := inClass cClos 12
abbrev sShown : Stmt := inClass cClos 14
abbrev sXInit : Stmt := inClass cExch 0
abbrev sSpot : Stmt := inClass cExch 1
abbrev sConnect : Stmt := inClass cExch 2
abbrev sPart : Stmt := inClass cExch 3
abbrev sReads : Stmt := inClass cExch 4
abbrev sJoins : Stmt := inClass cExch 5
abbrev sWrites : Stmt := inClass cExch 6
abbrev sFrame : Stmt := inClass cExch 7
abbrev sNeeded : Stmt := top 16
abbrev sWait : Stmt := top 17
abbrev sDice : Stmt := top 19
abbrev sRoll : Stmt := top 20
abbrev sRounds : Stmt := top 21
abbrev sTold : Stmt := top 22
abbrev sFull : Stmt := top 23
abbrev sPart2 : Stmt := top 24
abbrev sLaw : Stmt := top 25
/-- a def of the text -/
abbrev FnS (K : PySem.W.Frag) (x qual : Str) (st : Stmt) (f : Addr) (fd : FuncData) : Prop := FunD K x qual (defArgs st) (defBody st) (defScope st) [] [] f fd
/-! ### the instances -/
def nf (m g s : Int) (d : Addr) : List (Str × V) := [("middle", .int m), ("gates", .int g), ("switches", .int s), ("calls", .ref d)]
def xf (l s i : Int) (n : Addr) : List (Str × V) := [("lines", .int l), ("slots", .int s), ("inner", .int i), ("net", .ref n)]
/-- a call's place in the dict -/
def EntAt (H : Hp) (e : Call) (kv : Key × V) : Prop := kv.1 = .inl e.one ∧ ∃ t : Addr, kv.2 = .ref t ∧ H t = some (.tup [.int e.goal, .int e.mid])
def CallsAt (H : Hp) (d : Addr) (c : List Call) : Prop := ∃ kvs : List (Key × V), H d = some (.dK kvs) ∧ Paired (EntAt H) c kvs
/-- a net stands at n: its calls in the dict at d -/
structure NetAt (C : Addr) (H : Hp) (n d : Addr) (m g s : Int) (c : List Call) : Prop where
  ob : ∃ dx, H n = some (.ins C dx (nf m g s d))
  cs : CallsAt H d c
  bd : 1 ≤ g ∧ g ≤ 3 ∧ 1 ≤ s ∧ s ≤ 3 ∧ 1 ≤ m ∧ m ≤ 4
structure ExAt (CE C : Addr) (H : Hp) (x n d : Addr) (l s i : Int) (c : List Call) : Prop where
  ob : ∃ dx, H x = some (.ins CE dx (xf l s i n))
  net : NetAt C H n d i s l c
/-- all but the tables of code objects stay -/
abbrev ExtN := LamX.ExtN
theorem extN_of {H H' : Hp} (e : Same H H') : ExtN H H' := LamX.ExtN.of e
theorem paired_mono {α β : Type} {F G : α → β → Prop} : ∀ {l : List α} {r : List β}, Paired F l r → (∀ a b, F a b → G a b) → Paired G l r
  | _, _, .nil, _ => .nil
  | _, _, .cons h t, f => .cons (f _ _ h) (paired_mono t f)
theorem EntAt.ext {H H' : Hp} (e : ExtN H H') {a : Call} {kv : Key × V} (h : EntAt H a kv) : EntAt H' a kv := by
  obtain ⟨h1, t, h2, h3⟩ := h
  exact ⟨h1, t, h2, e _ _ h3 (fun _ z => by cases z)⟩
theorem CallsAt.ext {H H' : Hp} {d : Addr} {c : List Call} (e : ExtN H H') (h : CallsAt H d c) : CallsAt H' d c := by
  obtain ⟨kvs, h1, h2⟩ := h
  exact ⟨kvs, e _ _ h1 (fun _ z => by cases z), paired_mono h2 fun _ _ => EntAt.ext e⟩
theorem NetAt.ext {C : Addr} {H H' : Hp} {n d : Addr} {m g s : Int} {c : List Call} (e : ExtN H H') (h : NetAt C H n d m g s c) : NetAt C H' n d m g s c := by
  obtain ⟨⟨dx, h1⟩, h2, h3⟩ := h
  exact ⟨⟨dx, e _ _ h1 (fun _ z => by cases z)⟩, h2.ext e, h3⟩
theorem ExAt.ext {CE C : Addr} {H H' : Hp} {x n d : Addr} {l s i : Int} {c : List Call} (e : ExtN H H') (h : ExAt CE C H x n d l s i c) : ExAt CE C H' x n d l s i c := by
  obtain ⟨⟨dx, h1⟩, h2⟩ := h
  exact ⟨⟨dx, e _ _ h1 (fun _ z => by cases z)⟩, h2.ext e⟩
theorem NetAt.same {C : Addr} {H H' : Hp} {n d : Addr} {m g s : Int} {c : List Call} (h : NetAt C H n d m g s c) (e : Same H H') : NetAt C H' n d m g s c := h.ext (extN_of e)
theorem ExAt.same {CE C : Addr} {H H' : Hp} {x n d : Addr} {l s i : Int} {c : List Call} (h : ExAt CE C H x n d l s i c) (e : Same H H') : ExAt CE C H' x n d l s i c := h.ext (extN_of e)
theorem same_new {H : Hp} {p : Addr} {o : HO} (hp : H p = none) : Same H (upd H p o) := fun b u h => by
  rw [upd_ne (ne_of_none h hp)]
  exact h
/-! ### fields -/
theorem nf_middle (m g s : Int) (d : Addr) : (nf m g s d).lookup ("middle" : Str) = some (.int m) := by rfl
theorem nf_gates (m g s : Int) (d : Addr) : (nf m g s d).lookup ("gates" : Str) = some (.int g) := by rfl
theorem nf_switches (m g s : Int) (d : Addr) : (nf m g s d).lookup ("switches" : Str) = some (.int s) := by rfl
theorem nf_calls (m g s : Int) (d : Addr) : (nf m g s d).lookup ("calls" : Str) = some (.ref d) := by rfl
theorem xf_lines (l s i : Int) (n : Addr) : (xf l s i n).lookup ("lines" : Str) = some (.int l) := by rfl
theorem xf_slots (l s i : Int) (n : Addr) : (xf l s i n).lookup ("slots" : Str) = some (.int s) := by rfl
theorem xf_inner (l s i : Int) (n : Addr) : (xf l s i n).lookup ("inner" : Str) = some (.int i) := by rfl
theorem xf_net (l s i : Int) (n : Addr) : (xf l s i n).lookup ("net" : Str) = some (.ref n) := by rfl
theorem lookup_not {f : Str} : ∀ {l : List (Str × V)}, (l.all fun p => !decide (p.1 = f)) = true → l.lookup f = none
  | [], _ => rfl
  | p :: r, h => by
    rw [List.all_cons, Bool.and_eq_true] at h
    obtain ⟨h1, h2⟩ := h
    have h3 : ¬ f = p.1 := fun z => by
      rw [decide_eq_true z.symm] at h1
      cases h1
    have h4 : (f == p.1) = false := by simpa using h3
    show (match f == p.1 with | true => some p.2 | false => r.lookup f) = none
    rw [h4]
    exact lookup_not h2
def nfN : List Str := ["middle", "gates", "switches", "calls"]
def xfN : List Str := ["lines", "slots", "inner", "net"]
theorem nf_no (m g s : Int) (d : Addr) {f : Str} (h : (nfN.all fun p => !decide (p = f)) = true) : (nf m g s d).lookup f = none := lookup_not h
theorem xf_no (l s i : Int) (n : Addr) {f : Str} (h : (xfN.all fun p => !decide (p = f)) = true) : (xf l s i n).lookup f = none := lookup_not h
theorem nf_put (m g s : Int) (d : Addr) : putF "calls" (.ref d) (putF "switches" (.int s) (putF "gates" (.int g) (putF "middle" (.int m) []))) = nf m g s d := by rfl
theorem xf_put (l s i : Int) (n : Addr) : putF "net" (.ref n) (putF "inner" (.int i) (putF "slots" (.int s) (putF "lines" (.int l) []))) = xf l s i n := by rfl
end Clx
/-! ## K1 -/
set_option Elab.async false
set_option linter.all false
set_option maxRecDepth 100000
set_option maxHeartbeats 4000000
/-! ### the net's small methods -/
namespace Clx
open PySem PySem.Spec PyProof.Rows L2
/-- what the top has left of the two classes and of the built-ins' names -/
structure Txt (K : PySem.W.Frag) (mg : Str → Option Value) (CC CE : Addr) : Prop where
  clC : Cls K CC
  clE : Cls K CE
  nMid : NoAttr K CC "middle"
  nGat : NoAttr K CC "gates"
  nSwi : NoAttr K CC "switches"
  nCal : NoAttr K CC "calls"
  nLin : NoAttr K CE "lines"
  nSlo : NoAttr K CE "slots"
  nInn : NoAttr K CE "inner"
  nNet : NoAttr K CE "net"
  gSorted : mg "sorted" = none
  gRange : mg "range" = none
  gTuple : mg "tuple" = none
  gLen : mg "len" = none
  gAny : mg "any" = none
  gEnum : mg "enumerate" = none
  gList : mg "list" = none
  gAbs : mg "abs" = none
  gInt : mg "int" = none
section
variable {P : Program} {w : World} {K : PySem.W.Frag} {mg : Str → Option Value} {base : Heap} {CC CE f : Addr} {fd : FuncData}
/-! #### Clos.__init__ -/
def spCInit (CC : Addr) : Sp := fun vs H Q _ => ∃ (p dx : Addr) (m g s : Int), vs = [.ref p, .int m, .int g, .int s] ∧ H p = some (.ins CC dx []) ∧ (1 ≤ g ∧ g ≤ 3 ∧ 1 ≤ s ∧ s ≤ 3 ∧ 1 ≤ m ∧ m ≤ 4) ∧
  ∀ (d : Addr) (H' : Hp), H d = none → NetAt CC H' p d m g s [] → (∀ b o, H b = some o → b ≠ p → H' b = some o) → Q .non H'
theorem scCInit : FnScope ["self", "middle", "gates", "switches"] ["self", "middle", "gates", "switches"] (defScope sCInit) := ⟨rfl, rfl, rfl, by decide +kernel, rfl, by decide +kernel, by decide +kernel⟩
theorem ok_cinit (F : FnS K "__init__" "Clos.__init__" sCInit f fd) (T : Txt K mg CC CE) : FnOk P w K mg base CX0 1 f fd ["self", "middle", "gates", "switches"] (spCInit CC) := by
  refine F.ok scCInit (fun vs H Q E h => ?_) (fun cdv A outer s0 H vs Q E hr h => ?_)
  · obtain ⟨p, dx, m, g, s, rfl, _⟩ := h
    rfl
  · obtain ⟨p, dx, m, g, s, rfl, hp, hb, k⟩ := h
    refine ⟨_, PSs.nox (pss_cons (ps_if (PW.pt (pw_or (pt_cmpR op_lt (pv 1) pe_int (nomark _)) (pw_or (pt_cmpR op_lt (pv 2) pe_int (nomark _)) (pw_or1 (pt_cmpR op_lt (pv 3) pe_int (nomark _)))))) (pss_one ps_never) pss_nil)
      (pss_cons (ps_fld (pv 0) (pv 1) rfl) (pss_cons (ps_fld (pv 0) (pv 2) rfl) (pss_cons (ps_fld (pv 0) (pv 3) rfl) (pss_one (ps_fld (pv 0) pe_dnewK rfl)))))), ?_⟩
    have n1 : decide (m < 1) = false := decide_eq_false (by omega)
    have n2 : decide (g < 1) = false := decide_eq_false (by omega)
    have n3 : decide (s < 1) = false := decide_eq_false (by omega)
    refine ⟨_, rfl, _, _, rfl, rfl, _, rfl, ?_⟩
    rw [n1]
    refine iteF ⟨_, rfl, _, _, rfl, rfl, _, rfl, ?_⟩
    rw [n2]
    refine iteF ⟨_, rfl, _, _, rfl, rfl, _, rfl, ?_⟩
    rw [n3]
    refine iteF ?_
    refine ⟨_, rfl, _, rfl, p, CC, dx, _, rfl, hp, T.clC, T.nMid, (by show 0 < 1000; decide), ?_⟩
    refine ⟨_, rfl, _, rfl, p, CC, dx, _, rfl, upd_same, T.clC, T.nGat, (by show 1 < 1000; decide), ?_⟩
    refine ⟨_, rfl, _, rfl, p, CC, dx, _, rfl, upd_same, T.clC, T.nSwi, (by show 2 < 1000; decide), ?_⟩
    intro d hd
    rw [upd_upd, upd_upd] at hd ⊢
    have npd : d ≠ p := fun z => by
      rw [z, upd_same] at hd
      cases hd
    rw [upd_ne npd] at hd
    refine ⟨_, rfl, p, CC, dx, _, rfl, (by rw [upd_ne npd.symm, upd_same]), T.clC, T.nCal, (by show 3 < 1000; decide), ?_⟩
    refine k d _ hd ⟨⟨dx, upd_same⟩, ⟨[], by rw [upd_ne npd, upd_same], .nil⟩, hb⟩ fun b o e hne => ?_
    rw [upd_ne hne, upd_ne (ne_of_none e hd), upd_ne hne]
    exact e
/-! #### Clos.size -/
def spSize (CC : Addr) : Sp := fun vs H Q _ => ∃ (n d : Addr) (m g s : Int) (c : List Call), vs = [.ref n] ∧ NetAt CC H n d m g s c ∧ Q (.int (g * s)) H
theorem scSize : FnScope ["self"] ["self"] (defScope sSize) := ⟨rfl, rfl, rfl, by decide +kernel, rfl, by decide +kernel, by decide +kernel⟩
theorem ok_size (F : FnS K "size" "Clos.size" sSize f fd) (T : Txt K mg CC CE) : FnOk P w K mg base CX0 1 f fd ["self"] (spSize CC) := by
  refine F.ok scSize (fun vs H Q E h => ?_) (fun cdv A outer s0 H vs Q E hr h => ?_)
  · obtain ⟨n, d, m, g, s, c, rfl, _⟩ := h
    rfl
  · obtain ⟨n, d, m, g, s, c, rfl, N, k⟩ := h
    obtain ⟨⟨dx, h1⟩, _, hb⟩ := id N
    refine ⟨_, PSs.nox (pss_one (ps_ret (pe_op op_mul (pe_fld (pv 0) rfl) (pe_fld (pv 0) rfl)))), ?_⟩
    refine ⟨_, rfl, n, CC, dx, _, _, rfl, h1, T.clC, T.nGat, nf_gates _ _ _ _, _, rfl, n, CC, dx, _, _, rfl, h1, T.clC, T.nSwi, nf_switches _ _ _ _, _, _, rfl, rfl, .inl ⟨by omega, by omega⟩, k⟩
/-! #### Clos.ends -/
def spEnds (CC : Addr) : Sp := fun vs H Q _ => ∃ (n d : Addr) (m g s : Int) (c : List Call) (x y : Int), vs = [.ref n, .int x, .int y] ∧ NetAt CC H n d m g s c ∧ ∀ p, H p = none → Q (.ref p) (upd H p (.tup [.int (x / g), .int (y / g)]))
theorem scEnds : FnScope ["self", "one", "other"] ["self", "one", "other"] (defScope sEnds) := ⟨rfl, rfl, rfl, by decide +kernel, rfl, by decide +kernel, by decide +kernel⟩
theorem ok_ends (F : FnS K "ends" "Clos.ends" sEnds f fd) (T : Txt K mg CC CE) : FnOk P w K mg base CX0 1 f fd ["self", "one", "other"] (spEnds CC) := by
  refine F.ok scEnds (fun vs H Q E h => ?_) (fun cdv A outer s0 H vs Q E hr h => ?_)
  · obtain ⟨n, d, m, g, s, c, x, y, rfl, _⟩ := h
    rfl
  · obtain ⟨n, d, m, g, s, c, x, y, rfl, N, k⟩ := h
    obtain ⟨⟨dx, h1⟩, _, hb⟩ := id N
    refine ⟨_, PSs.nox (pss_one (ps_ret (pe_tup (pa_cons (pe_op op_fdiv (pv 1) (pe_fld (pv 0) rfl)) (pa_cons (pe_op op_fdiv (pv 2) (pe_fld (pv 0) rfl)) pa_nil))))), ?_⟩
    refine ⟨_, rfl, _, rfl, n, CC, dx, _, _, rfl, h1, T.clC, T.nGat, nf_gates _ _ _ _, _, _, rfl, rfl, ⟨by omega, by omega⟩, _, rfl, _, rfl, n, CC, dx, _, _, rfl, h1, T.clC, T.nGat, nf_gates _ _ _ _, _, _, rfl, rfl, ⟨by omega, by omega⟩, (by show 2 ≤ sizeLine; decide), fun p hp => k p hp⟩
end
end Clx
/-! ## K2 -/
set_option Elab.async false
set_option linter.all false
set_option maxRecDepth 100000
set_option maxHeartbeats 4000000
/-! ### what is read of the dict of calls -/
namespace Clx
open PySem PySem.Spec PyProof.Rows L2
/-- H' is H, but for the dict at d, which is locked, and new things -/
structure Lk (H : Hp) (d : Addr) (od : Obj) (u : HO) (H' : Hp) : Prop where
  at_ : H' d = some (.frz od u)
  same : ∀ b o, b ≠ d → H b = some o → H' b = some o
theorem Lk.start {H : Hp} {d : Addr} {od : Obj} {u : HO} : Lk H d od u (upd H d (.frz od u)) := ⟨upd_same, fun b o hb h => by rw [upd_ne hb]; exact h⟩
theorem Lk.new {H H' : Hp} {d p : Addr} {od : Obj} {u o : HO} (L : Lk H d od u H') (hp : H' p = none) : Lk H d od u (upd H' p o) :=
  ⟨by rw [upd_ne (ne_of_none L.at_ hp)]; exact L.at_, fun b v hb h => by rw [upd_ne (ne_of_none (L.same b v hb h) hp)]; exact L.same b v hb h⟩
/-- a change of what is not old -/
theorem Lk.put {H H' : Hp} {d p : Addr} {od : Obj} {u o : HO} (L : Lk H d od u H') (hp : H p = none) (hd : p ≠ d) : Lk H d od u (upd H' p o) :=
  ⟨by rw [upd_ne hd.symm]; exact L.at_, fun b v hb h => by rw [upd_ne (ne_of_none h hp)]; exact L.same b v hb h⟩
theorem Lk.back {H H' : Hp} {d : Addr} {od : Obj} {u : HO} (L : Lk H d od u H') (hu : H d = some u) : Same H (upd H' d u) := fun b o h => by
  by_cases hb : b = d
  · subst hb
    rw [upd_same, ← hu, h]
  · rw [upd_ne hb]
    exact L.same b o hb h
theorem Lk.seq {K : PySem.W.Frag} {H H' : Hp} {d a : Addr} {od : Obj} {u : HO} {xs : List V} (L : Lk H d od u H') (h : H a = some (.tup xs)) (hd : a ≠ d) : SqT K H' a xs := SqT.of (L.same a _ hd h)
theorem paired_get {α β : Type} {F : α → β → Prop} : ∀ {l : List α} {r : List β} {i : Nat} {y : β}, Paired F l r → r[i]? = some y → ∃ x, l[i]? = some x ∧ F x y
  | _, _, _, _, .nil, h => by simp at h
  | _, _, 0, _, .cons hh _, h => by
    simp at h
    subst h
    exact ⟨_, rfl, hh⟩
  | _, _, i + 1, _, .cons _ t, h => by
    obtain ⟨x, h1, h2⟩ := paired_get (i := i) t (by simpa using h)
    exact ⟨x, by simpa using h1, h2⟩
theorem paired_get' {α β : Type} {F : α → β → Prop} : ∀ {l : List α} {r : List β} {i : Nat} {x : α}, Paired F l r → l[i]? = some x → ∃ y, r[i]? = some y ∧ F x y
  | _, _, _, _, .nil, h => by simp at h
  | _, _, 0, _, .cons hh _, h => by
    simp at h
    subst h
    exact ⟨_, rfl, hh⟩
  | _, _, i + 1, _, .cons _ t, h => by
    obtain ⟨x, h1, h2⟩ := paired_get' (i := i) t (by simpa using h)
    exact ⟨x, by simpa using h1, h2⟩
theorem val_at {H : Hp} {c : List Call} {kvs : List (Key × V)} {i : Nat} {vx : V} (hc : Paired (EntAt H) c kvs) (e2 : kvs[i]?.map Prod.snd = some vx) :
    ∃ (e : Call) (t : Addr), c[i]? = some e ∧ vx = .ref t ∧ H t = some (.tup [.int e.goal, .int e.mid]) := by
  cases hkv : kvs[i]? with
  | none =>
    rw [hkv] at e2
    cases e2
  | some kv =>
    rw [hkv] at e2
    obtain ⟨e, he, hk1, t, hk2, ht⟩ := paired_get hc hkv
    refine ⟨e, t, he, ?_, ht⟩
    rw [← Option.some.inj e2]
    exact hk2
theorem item_at {H : Hp} {c : List Call} {kvs : List (Key × V)} {i : Nat} {kx vx : V} (hc : Paired (EntAt H) c kvs) (e1 : (kvs[i]?.map fun kv => kV kv.1) = some kx) (e2 : kvs[i]?.map Prod.snd = some vx) :
    ∃ (e : Call) (t : Addr), c[i]? = some e ∧ kx = .int e.one ∧ vx = .ref t ∧ H t = some (.tup [.int e.goal, .int e.mid]) := by
  cases hkv : kvs[i]? with
  | none =>
    rw [hkv] at e1
    cases e1
  | some kv =>
    rw [hkv] at e1 e2
    obtain ⟨e, he, hk1, t, hk2, ht⟩ := paired_get hc hkv
    refine ⟨e, t, he, ?_, ?_, ht⟩
    · have e3 : kV kv.1 = kx := Option.some.inj e1
      rw [← e3, hk1] <;> rfl
    · rw [← Option.some.inj e2]
      exact hk2
theorem take_filter_succ {α : Type} {l : List α} {p : α → Bool} {i : Nat} {x : α} (h : l[i]? = some x) : (l.take (i + 1)).filter p = (l.take i).filter p ++ (if p x = true then [x] else []) := by
  obtain ⟨hi, e⟩ := List.getElem?_eq_some_iff.mp h
  rw [List.take_succ, List.filter_append, h]
  congr 1
  show List.filter p [x] = _
  rw [List.filter_cons, List.filter_nil]
abbrev rFdiv : R2 := rI CDiv fun i j => .int (i / j)
section
variable {P : Program} {w : World} {K : PySem.W.Frag} {mg : Str → Option Value} {base : Heap} {CC CE f : Addr} {fd : FuncData}
/-! #### Clos.used_in, used_out -/
def spUsed (CC : Addr) (us : Int → List Call → Int → List Int) : Sp := fun vs H Q _ => ∃ (n d : Addr) (m g s : Int) (c : List Call) (sw : Int), vs = [.ref n, .int sw] ∧ NetAt CC H n d m g s c ∧ c.length ≤ 9 ∧
  ∀ (ns : List Int) (l : Addr) (H' : Hp), ns.Perm (us g c sw) → Same H H' → H l = none → H' l = some (.lst (ns.map V.int)) → Q (.ref l) H'
theorem scUsedIn : FnScope ["self", "switch", "one", "call"] ["self", "switch"] (defScope sUsedIn) := ⟨rfl, rfl, rfl, by decide +kernel, rfl, by decide +kernel, by decide +kernel⟩
theorem ok_usedin (F : FnS K "used_in" "Clos.used_in" sUsedIn f fd) (T : Txt K mg CC CE) : FnOk P w K mg base CX0 1 f fd ["self", "switch"] (spUsed CC usedIn) := by
  refine F.ok scUsedIn (fun vs H Q E h => ?_) (fun cdv A outer s0 H vs Q E hr h => ?_)
  · obtain ⟨n, d, m, g, s, c, sw, rfl, _⟩ := h
    rfl
  · obtain ⟨n, d, m, g, s, c, sw, rfl, N, hlen, k⟩ := h
    obtain ⟨⟨dx, h1⟩, ⟨kvs, hd, hc⟩, hb⟩ := id N
    refine ⟨_, PSs.nox (pss_one (ps_ret (pe_callB cr_sorted (by rfl) T.gSorted (by decide +kernel) (pa_cons (pe_lock (pe_lc (own := [("one", 2), ("call", 3)])
        (g := gTup K 2 (gCons (gName 2) (gCons (gName 3) gNil))) (tt := tTest (tOp rEq (tOp rFdiv (tVar 2) (tFld K (tVar 0) "gates")) (tVar 1))) (te := tOp (rIxT K) (tVar 3) (tC (.int 1)))
        rfl scUsedIn.nd (pi_items (pe_fld (pv 0) rfl))
        (blkOk_by (N := ["self", "switch", "one", "call"]) (sc := defScope sUsedIn) (by decide +kernel))
        (fun _ _ _ _ _ => pg_tup rfl (pgs_cons (pg_name (i := 2) scUsedIn.nd rfl (Or.inl rfl)) (pgs_cons (pg_name (i := 3) scUsedIn.nd rfl (Or.inl rfl)) pgs_nil)))
        (fun _ _ _ _ _ => pts_one (pt_cmpR op_eq (pe_op op_fdiv (pv 2) (pe_fld (pv 0) rfl)) (pv 1) (nomark _)))
        (fun _ _ _ _ _ => pe_ix ix_tup (pv 3) pe_int (fun _ _ => rfl)))) pa_nil)))), ?_⟩
    refine ⟨d, .dK kvs, hd, trivial, fun od => ?_⟩
    have hnd : n ≠ d := ne_of h1 hd (by intro z; cases z)
    refine ⟨_, rfl, n, CC, dx, _, _, rfl, (by rw [upd_ne hnd]; exact h1), T.clC, T.nCal, nf_calls _ _ _ _, d, od, kvs, rfl, upd_same, fun D hD => ?_⟩
    have hDd : D ≠ d := fun z => by
      rw [z, upd_same] at hD
      cases hD
    have hD0 : H D = none := by
      rw [upd_ne hDd] at hD
      exact hD
    have hkl : kvs.length = c.length := hc.length.symm
    refine lc_it walk_items (fun i Hc => Lk H d od (.dK kvs) Hc ∧ Hc D = some (.lst ((usedIn g (c.take i) sw).map V.int))) ⟨Lk.start.put hD0 hDd, upd_same⟩ (fun i Hc _ h => h.1.at_) ?_ ?_
    · rintro i x Hc H' hi ⟨L, hl⟩ ⟨T0, kx, vx, rfl, hT, rfl, e1, e2⟩
      obtain ⟨e, t, he, rfl, rfl, ht⟩ := item_at hc e1 e2
      have L1 : Lk H d od (.dK kvs) (upd Hc T0 (.tup [.int e.one, .ref t])) := L.new hT
      have nTD : D ≠ T0 := ne_of_none hl hT
      have ntd : t ≠ d := ne_of ht hd (by intro z; cases z)
      have step := take_filter_succ (p := fun e : Call => decide (e.one / g = sw)) he
      refine ⟨T0, _, rfl, SqT.of upd_same, rfl, _, _, rfl, _, _, rfl, rfl, rfl, ?_⟩
      refine ⟨_, rfl, _, rfl, n, CC, dx, _, _, rfl, L1.same n _ hnd h1, T.clC, T.nGat, nf_gates _ _ _ _, _, _, rfl, rfl, ⟨by omega, by omega⟩, _, rfl, rfl, _, rfl, ?_⟩
      by_cases hs : e.one / g = sw
      · rw [decide_eq_true (congrArg V.int hs)]
        refine iteT ⟨_, rfl, t, _, _, _, rfl, rfl, L1.seq ht ntd, rfl, _, (by rw [upd_ne nTD]; exact hl), ?_, L1.put hD0 hDd, ?_⟩
        · have h9 : (usedIn g (c.take i) sw).length ≤ (c.take i).length := by
            unfold usedIn
            rw [List.length_map]
            exact List.length_filter_le _ _
          rw [List.length_map]
          have h8 : (c.take i).length ≤ c.length := by
            rw [List.length_take]
            omega
          exact small1000 (by omega)
        · rw [upd_same]
          unfold usedIn
          rw [step, if_pos (decide_eq_true hs), List.map_append, List.map_append] <;> rfl
      · rw [decide_eq_false (fun z => hs (V.int.inj z))]
        refine iteF ⟨L1, ?_⟩
        rw [upd_ne nTD, hl]
        unfold usedIn
        rw [step, if_neg (by simpa using hs), List.append_nil]
    · rintro Hc ⟨L, hl⟩
      refine ⟨L.at_, D, usedIn g c sw, rfl, ?_, ?_, fun ns l hp hs hl2 => ?_⟩
      · have e0 : c.take kvs.length = c := List.take_of_length_le (by omega)
        rw [e0] at hl
        refine SqL.of ?_
        rw [upd_ne hDd]
        exact hl
      · unfold usedIn
        rw [List.length_map]
        have := List.length_filter_le (fun e : Call => decide (e.one / g = sw)) c
        omega
      · have S1 : Same H (upd Hc d (.dK kvs)) := L.back hd
        exact k ns l _ hp (S1.trans (same_new hl2)) (S1.free hl2) upd_same
end
end Clx
/-! ## K3 -/
set_option Elab.async false
set_option linter.all false
set_option maxRecDepth 100000
set_option maxHeartbeats 4000000
/-! ### used_out, check, end -/
namespace Clx
open PySem PySem.Spec PyProof.Rows L2
theorem inV_ints (x : Int) : ∀ ns : List Int, inV (.int x) (ns.map V.int) = decide (x ∈ ns)
  | [] => rfl
  | n :: r => by
    have ih := inV_ints x r
    unfold inV at ih ⊢
    rw [List.map_cons, List.any_cons, ih]
    have e : eqV (V.int n) (V.int x) = (n == x) := rfl
    rw [e]
    by_cases h : n = x
    · subst h
      simp
    · have h2 : (n == x) = false := by simpa using h
      have h3 : ¬ x = n := fun z => h z.symm
      rw [h2, Bool.false_or]
      by_cases h4 : x ∈ r <;> simp [h4, h3]
theorem flat_ints : ∀ ns : List Int, (ns.map V.int).all flatV = true
  | [] => rfl
  | n :: r => by
    rw [List.map_cons, List.all_cons, flat_ints r] <;> rfl
theorem valV_calls {H : Hp} : ∀ {c : List Call} {kvs : List (Key × V)} {e : Call}, Paired (EntAt H) c kvs → (c.map Call.one).Nodup → e ∈ c → ∃ t : Addr, valV kvs (Sum.inl e.one : Key) = some (.ref t) ∧ H t = some (.tup [.int e.goal, .int e.mid])
  | _, _, _, .nil, _, h => by cases h
  | a :: c, kv :: kvs, e, .cons hh ht, hn, h => by
    rw [List.map_cons] at hn
    have h1 := List.nodup_cons.mp hn
    obtain ⟨k1, t, k2, k3⟩ := hh
    by_cases hea : e = a
    · subst hea
      exact ⟨t, (valV_pos (p := kv) k1).trans (by rw [k2]), k3⟩
    · have hm : e ∈ c := by
        rcases List.mem_cons.mp h with z | z
        · exact (hea z).elim
        · exact z
      obtain ⟨u, e1, e2⟩ := valV_calls ht h1.2 hm
      have ne : ¬ kv.1 = (Sum.inl e.one : Key) := fun z => by
        rw [k1] at z
        have z2 : a.one = e.one := Sum.inl.inj z
        exact h1.1 (z2 ▸ List.mem_map_of_mem hm)
      exact ⟨u, (valV_neg (p := kv) ne).trans e1, e2⟩
theorem valV_none {H : Hp} : ∀ {c : List Call} {kvs : List (Key × V)} {x : Int}, Paired (EntAt H) c kvs → (∀ e ∈ c, e.one ≠ x) → valV kvs (Sum.inl x : Key) = none
  | _, _, _, .nil, _ => rfl
  | a :: c, kv :: kvs, x, .cons hh ht, hn => by
    have ne : ¬ kv.1 = (Sum.inl x : Key) := fun z => by
      rw [hh.1] at z
      exact hn a List.mem_cons_self (Sum.inl.inj z)
    rw [valV_neg (p := kv) ne]
    exact valV_none ht fun e he => hn e (List.mem_cons_of_mem _ he)
section
variable {P : Program} {w : World} {K : PySem.W.Frag} {mg : Str → Option Value} {base : Heap} {CC CE f fS : Addr} {fd fdS : FuncData}
theorem scUsedOut : FnScope ["self", "switch", "call"] ["self", "switch"] (defScope sUsedOut) := ⟨rfl, rfl, rfl, by decide +kernel, rfl, by decide +kernel, by decide +kernel⟩
theorem ok_usedout (F : FnS K "used_out" "Clos.used_out" sUsedOut f fd) (T : Txt K mg CC CE) : FnOk P w K mg base CX0 1 f fd ["self", "switch"] (spUsed CC usedOut) := by
  refine F.ok scUsedOut (fun vs H Q E h => ?_) (fun cdv A outer s0 H vs Q E hr h => ?_)
  · obtain ⟨n, d, m, g, s, c, sw, rfl, _⟩ := h
    rfl
  · obtain ⟨n, d, m, g, s, c, sw, rfl, N, hlen, k⟩ := h
    obtain ⟨⟨dx, h1⟩, ⟨kvs, hd, hc⟩, hb⟩ := id N
    refine ⟨_, PSs.nox (pss_one (ps_ret (pe_callB cr_sorted (by rfl) T.gSorted (by decide +kernel) (pa_cons (pe_lock (pe_lc (own := [("call", 2)])
        (g := gName 2) (tt := tTest (tOp rEq (tOp rFdiv (tOp (rIxT K) (tVar 2) (tC (.int 0))) (tFld K (tVar 0) "gates")) (tVar 1))) (te := tOp (rIxT K) (tVar 2) (tC (.int 1)))
        rfl scUsedOut.nd (pi_values (pe_fld (pv 0) rfl))
        (blkOk_by (N := ["self", "switch", "call"]) (sc := defScope sUsedOut) (by decide +kernel))
        (fun _ _ _ _ _ => pg_name (i := 2) scUsedOut.nd rfl (Or.inl rfl))
        (fun _ _ _ _ _ => pts_one (pt_cmpR op_eq (pe_op op_fdiv (pe_ix ix_tup (pv 2) pe_int (fun _ _ => rfl)) (pe_fld (pv 0) rfl)) (pv 1) (nomark _)))
        (fun _ _ _ _ _ => pe_ix ix_tup (pv 2) pe_int (fun _ _ => rfl)))) pa_nil)))), ?_⟩
    refine ⟨d, .dK kvs, hd, trivial, fun od => ?_⟩
    have hnd : n ≠ d := ne_of h1 hd (by intro z; cases z)
    refine ⟨_, rfl, n, CC, dx, _, _, rfl, (by rw [upd_ne hnd]; exact h1), T.clC, T.nCal, nf_calls _ _ _ _, d, od, kvs, rfl, upd_same, fun D hD => ?_⟩
    have hDd : D ≠ d := fun z => by
      rw [z, upd_same] at hD
      cases hD
    have hD0 : H D = none := by
      rw [upd_ne hDd] at hD
      exact hD
    have hkl : kvs.length = c.length := hc.length.symm
    refine lc_it walk_values (fun i Hc => Lk H d od (.dK kvs) Hc ∧ Hc D = some (.lst ((usedOut g (c.take i) sw).map V.int))) ⟨Lk.start.put hD0 hDd, upd_same⟩ (fun i Hc _ h => h.1.at_) ?_ ?_
    · rintro i x Hc H' hi ⟨L, hl⟩ ⟨rfl, kx, e1⟩
      obtain ⟨e, t, he, rfl, ht⟩ := val_at hc (vx := x) (i := i) (by rw [e1] <;> rfl)
      have ntd : t ≠ d := ne_of ht hd (by intro z; cases z)
      have step := take_filter_succ (p := fun e : Call => decide (e.goal / g = sw)) he
      refine ⟨rfl, ?_⟩
      refine ⟨_, rfl, t, _, _, _, rfl, rfl, L.seq ht ntd, rfl, _, rfl, n, CC, dx, _, _, rfl, L.same n _ hnd h1, T.clC, T.nGat, nf_gates _ _ _ _, _, _, rfl, rfl, ⟨by omega, by omega⟩, _, rfl, rfl, _, rfl, ?_⟩
      by_cases hs : e.goal / g = sw
      · rw [decide_eq_true (congrArg V.int hs)]
        refine iteT ⟨_, rfl, t, _, _, _, rfl, rfl, L.seq ht ntd, rfl, _, hl, ?_, L.put hD0 hDd, ?_⟩
        · have h9 : (usedOut g (c.take i) sw).length ≤ (c.take i).length := by
            unfold usedOut
            rw [List.length_map]
            exact List.length_filter_le _ _
          rw [List.length_map]
          have h8 : (c.take i).length ≤ c.length := by
            rw [List.length_take]
            omega
          exact small1000 (by omega)
        · rw [upd_same]
          unfold usedOut
          rw [step, if_pos (decide_eq_true hs), List.map_append, List.map_append] <;> rfl
      · rw [decide_eq_false (fun z => hs (V.int.inj z))]
        refine iteF ⟨L, ?_⟩
        rw [hl]
        unfold usedOut
        rw [step, if_neg (by simpa using hs), List.append_nil]
    · rintro Hc ⟨L, hl⟩
      refine ⟨L.at_, D, usedOut g c sw, rfl, ?_, ?_, fun ns l hp hs hl2 => ?_⟩
      · have e0 : c.take kvs.length = c := List.take_of_length_le (by omega)
        rw [e0] at hl
        refine SqL.of ?_
        rw [upd_ne hDd]
        exact hl
      · unfold usedOut
        rw [List.length_map]
        have := List.length_filter_le (fun e : Call => decide (e.goal / g = sw)) c
        omega
      · have S1 : Same H (upd Hc d (.dK kvs)) := L.back hd
        exact k ns l _ hp (S1.trans (same_new hl2)) (S1.free hl2) upd_same
/-! #### Clos.check -/
def spCheck (CC : Addr) : Sp := fun vs H Q _ => ∃ (n d : Addr) (m g s : Int) (c : List Call) (x y : Int), vs = [.ref n, .int x, .int y] ∧ NetAt CC H n d m g s c ∧ c.length ≤ 9 ∧ (0 ≤ x ∧ x < g * s) ∧ (0 ≤ y ∧ y < g * s) ∧ (∀ e ∈ c, e.one ≠ x) ∧ (∀ e ∈ c, e.goal ≠ y) ∧
  ∀ H', Same H H' → Q .non H'
theorem scCheck : FnScope ["self", "one", "other", "call"] ["self", "one", "other"] (defScope sCheck) := ⟨rfl, rfl, rfl, by decide +kernel, rfl, by decide +kernel, by decide +kernel⟩
theorem ok_check (F : FnS K "check" "Clos.check" sCheck f fd) (T : Txt K mg CC CE) (FS : FnS K "size" "Clos.size" sSize fS fdS) (mS : Meth K CC "size" fS) : FnOk P w K mg base CX0 2 f fd ["self", "one", "other"] (spCheck CC) := by
  have GS : FnOk P w K mg base CX0 1 fS fdS ["self"] (spSize CC) := ok_size FS T
  have bS : Binds K fdS ["self"] [] := FS.bindsN fun _ _ _ _ _ _ us hl => match us, hl with | [_], _ => rfl
  refine F.ok scCheck (fun vs H Q E h => ?_) (fun cdv A outer s0 H vs Q E hr h => ?_)
  · obtain ⟨n, d, m, g, s, c, x, y, rfl, _⟩ := h
    rfl
  · obtain ⟨n, d, m, g, s, c, x, y, rfl, N, hlen, hx, hy, hk, hg, k⟩ := h
    obtain ⟨⟨dx, h1⟩, ⟨kvs, hd, hc⟩, hb⟩ := id N
    refine ⟨_, PSs.nox (pss_cons (ps_if (PW.pt (pw_or (pt_not (pt_chain op_le op_lt pe_int (pv 1) (pe_meth0 (pv 0) T.clC mS GS hr bS .nil pass0))) (pw_or1 (pt_not (pt_chain op_le op_lt pe_int (pv 2) (pe_meth0 (pv 0) T.clC mS GS hr bS .nil pass0)))))) (pss_one ps_never) pss_nil)
      (pss_one (ps_if (PW.pt (pw_or (pt_cmp (pc_din (hu_of hr) (pv 1) (pe_fld (pv 0) rfl)) (by rfl)) (pw_or1 (pt_cmpR op_in_seq (pv 2) (pe_lock (pe_lc (own := [("call", 3)]) (g := gName 3) (tt := tYes) (te := tOp (rIxT K) (tVar 3) (tC (.int 0)))
        rfl scCheck.nd (pi_values (pe_fld (pv 0) rfl)) (blkOk_by (N := ["self", "one", "other", "call"]) (sc := defScope sCheck) (by decide +kernel))
        (fun _ _ _ _ _ => pg_name (i := 3) scCheck.nd rfl (Or.inl rfl)) (fun _ _ _ _ _ => pts_nil) (fun _ _ _ _ _ => pe_ix ix_tup (pv 3) pe_int (fun _ _ => rfl)))) (by rfl))))) (pss_one ps_never) pss_nil))), ?_⟩
    have noN : (nf m g s d).lookup ("size" : Str) = none := nf_no _ _ _ _ (by decide +kernel)
    refine ⟨_, rfl, _, _, rfl, rfl, _, rfl, ?_⟩
    rw [decide_eq_true hx.1]
    refine iteT ⟨_, rfl, n, dx, _, rfl, h1, noN, n, d, m, g, s, c, rfl, N, _, _, rfl, rfl, _, rfl, ?_⟩
    rw [decide_eq_true hx.2]
    refine iteF ⟨_, rfl, _, _, rfl, rfl, _, rfl, ?_⟩
    rw [decide_eq_true hy.1]
    refine iteT ⟨_, rfl, n, dx, _, rfl, h1, noN, n, d, m, g, s, c, rfl, N, _, _, rfl, rfl, _, rfl, ?_⟩
    rw [decide_eq_true hy.2]
    refine iteF ?_
    refine ⟨_, rfl, _, rfl, n, CC, dx, _, _, rfl, h1, T.clC, T.nCal, nf_calls _ _ _ _, d, _, rfl, DGet.k (k := Sum.inl x) hd, _, rfl, ?_⟩
    rw [valV_none hc hk]
    refine iteF ⟨_, rfl, d, .dK kvs, hd, trivial, fun od => ?_⟩
    have hnd : n ≠ d := ne_of h1 hd (by intro z; cases z)
    refine ⟨_, rfl, n, CC, dx, _, _, rfl, (by rw [upd_ne hnd]; exact h1), T.clC, T.nCal, nf_calls _ _ _ _, d, od, kvs, rfl, upd_same, fun D hD => ?_⟩
    have hDd : D ≠ d := fun z => by
      rw [z, upd_same] at hD
      cases hD
    have hD0 : H D = none := by
      rw [upd_ne hDd] at hD
      exact hD
    have hkl : kvs.length = c.length := hc.length.symm
    refine lc_it walk_values (fun i Hc => Lk H d od (.dK kvs) Hc ∧ Hc D = some (.lst (((c.take i).map Call.goal).map V.int))) ⟨Lk.start.put hD0 hDd, upd_same⟩ (fun i Hc _ h => h.1.at_) ?_ ?_
    · rintro i v Hc H' hi ⟨L, hl⟩ ⟨rfl, kx, e1⟩
      obtain ⟨e, t, he, rfl, ht⟩ := val_at hc (vx := v) (i := i) (by rw [e1] <;> rfl)
      have ntd : t ≠ d := ne_of ht hd (by intro z; cases z)
      refine ⟨rfl, iteT (B := True) ⟨_, rfl, t, _, _, _, rfl, rfl, L.seq ht ntd, rfl, _, hl, ?_, L.put hD0 hDd, ?_⟩⟩
      · rw [List.length_map, List.length_map, List.length_take]
        exact small1000 (by omega)
      · rw [upd_same, List.take_succ, he, List.map_append, List.map_append] <;> rfl
    · rintro Hc ⟨L, hl⟩
      have e0 : c.take kvs.length = c := List.take_of_length_le (by omega)
      rw [e0] at hl
      refine ⟨L.at_, D, _, rfl, .inl (SqL.of (by rw [upd_ne hDd]; exact hl)), rfl, flat_ints _, _, rfl, ?_⟩
      have no : inV (V.int y) ((c.map Call.goal).map V.int) = false := by
        rw [inV_ints]
        refine decide_eq_false fun z => ?_
        obtain ⟨e, he, e1⟩ := List.mem_map.mp z
        exact hg e he e1
      rw [if_neg (by decide : ¬ (false = true)), no]
      exact iteF (k _ (L.back hd))
end
end Clx
/-! ## K4 -/
set_option Elab.async false
set_option linter.all false
set_option maxRecDepth 100000
set_option maxHeartbeats 4000000
/-! ### free_middle, end, at, shown -/
namespace Clx
open PySem PySem.Spec PyProof.Rows L2
/-- the middle ones that are free at both, in order -/
def freeM (m g : Int) (c : List Call) (h t : Int) : List Int := ((List.range m.toNat).map fun (i : Nat) => (i : Int)).filter fun k => decide (k ∉ usedIn g c h ∧ k ∉ usedOut g c t)
theorem mem_freeM {m g : Int} {c : List Call} {h t k : Int} : k ∈ freeM m g c h t ↔ (0 ≤ k ∧ k < m) ∧ k ∉ usedIn g c h ∧ k ∉ usedOut g c t := by
  unfold freeM
  rw [List.mem_filter, decide_eq_true_iff, List.mem_map]
  constructor
  · rintro ⟨⟨i, hi, rfl⟩, h2⟩
    have := List.mem_range.mp hi
    exact ⟨⟨by omega, by omega⟩, h2⟩
  · rintro ⟨⟨h1, h2⟩, h3⟩
    exact ⟨⟨k.toNat, List.mem_range.mpr (by omega), by omega⟩, h3⟩
theorem range_take {n i : Nat} (h : i < n) : ((List.range n).take (i + 1)).map (fun (j : Nat) => (j : Int)) = ((List.range n).take i).map (fun (j : Nat) => (j : Int)) ++ [(i : Int)] := by
  have e : (List.range n)[i]? = some i := by rw [List.getElem?_range h]
  rw [List.take_succ, e, List.map_append] <;> rfl
section
variable {P : Program} {w : World} {K : PySem.W.Frag} {mg : Str → Option Value} {base : Heap} {CC CE f fE fI fO : Addr} {fd fdE fdI fdO : FuncData}
/-! #### Clos.free_middle -/
def spFree (CC : Addr) : Sp := fun vs H Q _ => ∃ (n d : Addr) (m g s : Int) (c : List Call) (x y : Int), vs = [.ref n, .int x, .int y] ∧ NetAt CC H n d m g s c ∧ c.length ≤ 9 ∧
  ∀ (l : Addr) (H' : Hp), Same H H' → H l = none → H' l = some (.lst ((freeM m g c (x / g) (y / g)).map V.int)) → Q (.ref l) H'
theorem scFreeM : FnScope ["self", "one", "other", "here", "there", "mine", "theirs", "number"] ["self", "one", "other"] (defScope sFreeM) := ⟨rfl, rfl, rfl, by decide +kernel, rfl, by decide +kernel, by decide +kernel⟩
theorem ok_freem (F : FnS K "free_middle" "Clos.free_middle" sFreeM f fd) (T : Txt K mg CC CE) (FE : FnS K "ends" "Clos.ends" sEnds fE fdE) (mE : Meth K CC "ends" fE)
    (FI : FnS K "used_in" "Clos.used_in" sUsedIn fI fdI) (mI : Meth K CC "used_in" fI) (FO : FnS K "used_out" "Clos.used_out" sUsedOut fO fdO) (mO : Meth K CC "used_out" fO) :
    FnOk P w K mg base CX0 2 f fd ["self", "one", "other"] (spFree CC) := by
  have GE : FnOk P w K mg base CX0 1 fE fdE ["self", "one", "other"] (spEnds CC) := ok_ends FE T
  have bE : Binds K fdE ["self", "one", "other"] [] := FE.bindsN fun _ _ _ _ _ _ us hl => match us, hl with | [_, _, _], _ => rfl
  have GI : FnOk P w K mg base CX0 1 fI fdI ["self", "switch"] (spUsed CC usedIn) := ok_usedin FI T
  have bI : Binds K fdI ["self", "switch"] [] := FI.bindsN fun _ _ _ _ _ _ us hl => match us, hl with | [_, _], _ => rfl
  have GO : FnOk P w K mg base CX0 1 fO fdO ["self", "switch"] (spUsed CC usedOut) := ok_usedout FO T
  have bO : Binds K fdO ["self", "switch"] [] := FO.bindsN fun _ _ _ _ _ _ us hl => match us, hl with | [_, _], _ => rfl
  refine F.ok scFreeM (fun vs H Q E h => ?_) (fun cdv A outer s0 H vs Q E hr h => ?_)
  · obtain ⟨n, d, m, g, s, c, x, y, rfl, _⟩ := h
    rfl
  · obtain ⟨n, d, m, g, s, c, x, y, rfl, N, hlen, k⟩ := h
    obtain ⟨⟨dx, h1⟩, _, hb⟩ := id N
    refine ⟨_, PSs.nox (pss_cons (ps_asg (pe_meth (pv 0) T.clC mE GE hr bE .nil pass0 (pa_cons (pv 1) (pa_cons (pv 2) pa_nil))) (pg_tup rfl (pgs_cons (pg_name (i := 3) scFreeM.nd rfl (Or.inl rfl)) (pgs_cons (pg_name (i := 4) scFreeM.nd rfl (Or.inl rfl)) pgs_nil))))
      (pss_cons (ps_asg (pe_tup (pa_cons (pe_meth (pv 0) T.clC mI GI hr bI .nil pass0 (pa_cons (pv 3) pa_nil)) (pa_cons (pe_meth (pv 0) T.clC mO GO hr bO .nil pass0 (pa_cons (pv 4) pa_nil)) pa_nil)))
        (pg_tup rfl (pgs_cons (pg_name (i := 5) scFreeM.nd rfl (Or.inr rfl)) (pgs_cons (pg_name (i := 6) scFreeM.nd rfl (Or.inr rfl)) pgs_nil))))
      (pss_one (ps_ret (pe_lc (own := [("number", 7)]) (g := gName 7) (tt := tAnd (tTest (tOp (rIn K true) (tVar 7) (tVar 5))) (tTest (tOp (rIn K true) (tVar 7) (tVar 6)))) (te := tVar 7)
        rfl scFreeM.nd (pi_range1 rfl T.gRange (pa_cons (pe_fld (pv 0) rfl) pa_nil)) (blkOk_by (N := ["self", "one", "other", "here", "there", "mine", "theirs", "number"]) (sc := defScope sFreeM) (by decide +kernel))
        (fun _ _ _ _ _ => pg_name (i := 7) scFreeM.nd rfl (Or.inl rfl))
        (fun _ _ _ _ _ => pts_one (PW.pt (pw_and (pt_cmpR op_notIn_seq (pv 7) (pv 5) (by rfl)) (pw_and1 (pt_cmpR op_notIn_seq (pv 7) (pv 6) (by rfl))))))
        (fun _ _ _ _ _ => pv 7)))))), ?_⟩
    have noE : (nf m g s d).lookup ("ends" : Str) = none := nf_no _ _ _ _ (by decide +kernel)
    have noI : (nf m g s d).lookup ("used_in" : Str) = none := nf_no _ _ _ _ (by decide +kernel)
    have noO : (nf m g s d).lookup ("used_out" : Str) = none := nf_no _ _ _ _ (by decide +kernel)
    -- here, there = self.ends(one, other)
    refine ⟨_, rfl, n, dx, _, rfl, h1, noE, _, rfl, _, rfl, n, d, m, g, s, c, x, y, rfl, N, fun p hp => ?_⟩
    have S1 : Same H (upd H p (.tup [.int (x / g), .int (y / g)])) := same_new hp
    refine ⟨p, _, rfl, SqT.of upd_same, rfl, _, _, rfl, _, _, rfl, rfl, ?_⟩
    -- mine, theirs = self.used_in(here), self.used_out(there)
    refine ⟨_, rfl, n, dx, _, rfl, S1 _ _ h1, noI, _, rfl, n, d, m, g, s, c, x / g, rfl, N.same S1, hlen, fun ns l H2 hp2 S2 nl e2 => ?_⟩
    refine ⟨_, rfl, n, dx, _, rfl, S2 _ _ (S1 _ _ h1), noO, _, rfl, n, d, m, g, s, c, y / g, rfl, (N.same S1).same S2, hlen, fun ns' l' H3 hp3 S3 nl' e3 => ?_⟩
    refine ⟨(by show 2 ≤ sizeLine; decide), fun q hq => ?_⟩
    have S4 : Same H3 (upd H3 q (.tup [.ref l, .ref l'])) := same_new hq
    refine ⟨q, _, rfl, SqT.of upd_same, rfl, _, _, rfl, _, _, rfl, rfl, ?_⟩
    -- the comprehension
    have S13 : Same H H3 := (S1.trans S2).trans S3
    have S14 : Same H (upd H3 q (.tup [.ref l, .ref l'])) := S13.trans S4
    refine ⟨_, rfl, n, CC, dx, _, _, rfl, S14 _ _ h1, T.clC, T.nMid, nf_middle _ _ _ _, m, rfl, by omega, by omega, fun D hD => ?_⟩
    have S24 : Same H2 (upd H3 q (.tup [.ref l, .ref l'])) := S3.trans S4
    have hD3 : H3 D = none := S4.free hD
    have e2' := S24 _ _ e2
    have e3' := S4 _ _ e3
    refine lc_range (lo := 0) (n := m.toNat) (fun i Hc => Same (upd H3 q (.tup [.ref l, .ref l'])) Hc ∧ Hc D = some (.lst ((((((List.range m.toNat).take i).map fun (j : Nat) => (j : Int)).filter fun k => decide (k ∉ usedIn g c (x / g) ∧ k ∉ usedOut g c (y / g)))).map V.int))) ⟨same_new hD, upd_same⟩ ?_ ?_
    · rintro i Hc hi ⟨Sc, hl⟩
      refine ⟨rfl, ?_⟩
      have hput : ∀ (ys : List V), Same (upd H3 q (.tup [.ref l, .ref l'])) (upd Hc D (.lst ys)) := fun ys b o h => by
        rw [upd_ne (ne_of_none h hD)]
        exact Sc b o h
      refine ⟨_, rfl, _, rfl, l, ns.map V.int, rfl, .inl (SqL.of (Sc _ _ e2')), rfl, flat_ints _, _, rfl, ?_⟩
      rw [if_pos rfl, inV_ints]
      have hz : (0 : Int) + (i : Int) = (i : Int) := by omega
      rw [hz]
      have step := range_take hi
      by_cases hm : (i : Int) ∈ ns
      · rw [decide_eq_true hm]
        refine iteF ⟨Sc, ?_⟩
        have hno : ¬ ((i : Int) ∉ usedIn g c (x / g) ∧ (i : Int) ∉ usedOut g c (y / g)) := fun z => z.1 (hp2.mem_iff.mp hm)
        rw [hl, step, List.filter_append, List.filter_cons, if_neg (by simpa using hno), List.filter_nil, List.append_nil]
      · rw [decide_eq_false hm]
        refine iteT ⟨_, rfl, _, rfl, l', ns'.map V.int, rfl, .inl (SqL.of (Sc _ _ e3')), rfl, flat_ints _, _, rfl, ?_⟩
        rw [if_pos rfl, inV_ints]
        by_cases hm' : (i : Int) ∈ ns'
        · rw [decide_eq_true hm']
          refine iteF ⟨Sc, ?_⟩
          have hno : ¬ ((i : Int) ∉ usedIn g c (x / g) ∧ (i : Int) ∉ usedOut g c (y / g)) := fun z => z.2 (hp3.mem_iff.mp hm')
          rw [hl, step, List.filter_append, List.filter_cons, if_neg (by simpa using hno), List.filter_nil, List.append_nil]
        · rw [decide_eq_false hm']
          refine iteT ⟨_, rfl, _, hl, ?_, hput _, ?_⟩
          · rw [List.length_map]
            refine small1000 (Nat.le_trans (List.length_filter_le _ _) ?_)
            rw [List.length_map, List.length_take, List.length_range]
            omega
          · have hyes : (i : Int) ∉ usedIn g c (x / g) ∧ (i : Int) ∉ usedOut g c (y / g) := ⟨fun z => hm (hp2.mem_iff.mpr z), fun z => hm' (hp3.mem_iff.mpr z)⟩
            rw [upd_same, step, List.filter_append, List.filter_cons, if_pos (decide_eq_true hyes), List.filter_nil, List.map_append] <;> rfl
    · rintro Hc ⟨Sc, hl⟩
      rw [List.take_of_length_le (by rw [List.length_range]; exact Nat.le_refl _)] at hl
      exact k D Hc (S14.trans Sc) (S14.free hD) hl
end
end Clx
/-! ## K5 -/
set_option Elab.async false
set_option linter.all false
set_option maxRecDepth 100000
set_option maxHeartbeats 4000000
/-! ### end, at, shown -/
namespace Clx
open PySem PySem.Spec PyProof.Rows L2
theorem perm_lift {α β : Type} {f : α → β} {ys zs : List β} (h : ys.Perm zs) : ∀ {c : List α}, c.map f = zs → ∃ es : List α, es.Perm c ∧ es.map f = ys := by
  induction h with
  | nil => intro c h; exact ⟨c, .refl _, h⟩
  | cons x h ih =>
    intro c e
    cases c with
    | nil => cases e
    | cons a c =>
      rw [List.map_cons] at e
      injection e with e1 e2
      obtain ⟨es, h1, h2⟩ := ih e2
      exact ⟨a :: es, h1.cons a, by rw [List.map_cons, h2, e1]⟩
  | swap x y l =>
    intro c e
    cases c with
    | nil => cases e
    | cons a c =>
      cases c with
      | nil => simp at e
      | cons b c =>
        rw [List.map_cons, List.map_cons] at e
        injection e with e1 e2
        injection e2 with e2 e3
        exact ⟨b :: a :: c, .swap a b c, by rw [List.map_cons, List.map_cons, e1, e2, e3]⟩
  | trans h1 h2 ih1 ih2 =>
    intro c e
    obtain ⟨es, h3, h4⟩ := ih2 e
    obtain ⟨fs, h5, h6⟩ := ih1 h4
    exact ⟨fs, h5.trans h3, h6⟩
theorem paired_drop {H : Hp} (x : Int) : ∀ {c : List Call} {kvs : List (Key × V)}, Paired (EntAt H) c kvs → Paired (EntAt H) (c.filter fun e => decide (e.one ≠ x)) (dropK kvs (Sum.inl x : Key))
  | _, _, .nil => .nil
  | e :: c, kv :: kvs, .cons hh ht => by
    have ih := paired_drop x ht
    by_cases h : e.one = x
    · have h2 : kv.1 = (Sum.inl x : Key) := by rw [hh.1, h]
      rw [dropK_pos h2, List.filter_cons, if_neg (by simpa using h)]
      exact ih
    · have h2 : ¬ kv.1 = (Sum.inl x : Key) := fun z => by
        rw [hh.1] at z
        exact h (Sum.inl.inj z)
      rw [dropK_neg h2, List.filter_cons, if_pos (decide_eq_true h)]
      exact .cons hh ih
theorem keys_calls {H : Hp} : ∀ {c : List Call} {kvs : List (Key × V)}, Paired (EntAt H) c kvs → kvs.map (·.1) = (c.map Call.one).map Sum.inl
  | _, _, .nil => rfl
  | e :: c, kv :: kvs, .cons hh ht => by rw [List.map_cons, List.map_cons, List.map_cons, keys_calls ht, hh.1]
/-- what shown tells -/
def ShownAt (H : Hp) (p : Addr) (es : List Call) : Prop := ∃ ts : List Addr, H p = some (.tup (ts.map V.ref)) ∧ Paired (fun (e : Call) (t : Addr) => H t = some (.tup [.int e.one, .int e.goal, .int e.mid])) es ts
theorem paired_snoc {α β : Type} {F : α → β → Prop} : ∀ {l : List α} {r : List β} {x : α} {y : β}, Paired F l r → F x y → Paired F (l ++ [x]) (r ++ [y])
  | _, _, _, _, .nil, h => .cons h .nil
  | _, _, _, _, .cons a b, h => .cons a (paired_snoc b h)
theorem paired_len {α β : Type} {F : α → β → Prop} : ∀ {l : List α} {r : List β}, Paired F l r → l.length = r.length
  | _, _, .nil => rfl
  | _, _, .cons _ b => by rw [List.length_cons, List.length_cons, paired_len b]
section
variable {P : Program} {w : World} {K : PySem.W.Frag} {mg : Str → Option Value} {base : Heap} {CC CE f fE : Addr} {fd fdE : FuncData}
/-! #### Clos.end -/
def spEnd (CC : Addr) : Sp := fun vs H Q _ => ∃ (n d : Addr) (m g s : Int) (c : List Call) (x : Int), vs = [.ref n, .int x] ∧ NetAt CC H n d m g s c ∧ (c.map Call.one).Nodup ∧ (∃ e ∈ c, e.one = x) ∧
  ∀ H', NetAt CC H' n d m g s (c.filter fun e => decide (e.one ≠ x)) → (∀ b o, b ≠ d → H b = some o → H' b = some o) → Q .non H'
theorem scEnd : FnScope ["self", "one"] ["self", "one"] (defScope sEnd) := ⟨rfl, rfl, rfl, by decide +kernel, rfl, by decide +kernel, by decide +kernel⟩
theorem ok_end (F : FnS K "end" "Clos.end" sEnd f fd) (T : Txt K mg CC CE) : FnOk P w K mg base CX0 1 f fd ["self", "one"] (spEnd CC) := by
  refine F.ok scEnd (fun vs H Q E h => ?_) (fun cdv A outer s0 H vs Q E hr h => ?_)
  · obtain ⟨n, d, m, g, s, c, x, rfl, _⟩ := h
    rfl
  · obtain ⟨n, d, m, g, s, c, x, rfl, N, hn, ⟨e, he, rfl⟩, k⟩ := h
    obtain ⟨⟨dx, h1⟩, ⟨kvs, hd, hc⟩, hb⟩ := id N
    refine ⟨_, PSs.nox (pss_cons (ps_if (pt_cmp (pc_dnotin (hu_of hr) (pv 1) (pe_fld (pv 0) rfl)) (by rfl)) (pss_one ps_never) pss_nil) (pss_one (ps_ddel (pe_fld (pv 0) rfl) (pv 1)))), ?_⟩
    obtain ⟨t, hv, ht⟩ := valV_calls hc hn he
    have hnd : n ≠ d := ne_of h1 hd (by intro z; cases z)
    refine ⟨_, rfl, _, rfl, n, CC, dx, _, _, rfl, h1, T.clC, T.nCal, nf_calls _ _ _ _, d, _, rfl, DGet.k (k := Sum.inl e.one) hd, _, rfl, ?_⟩
    rw [hv]
    refine iteF ?_
    refine ⟨_, rfl, n, CC, dx, _, _, rfl, h1, T.clC, T.nCal, nf_calls _ _ _ _, _, rfl, d, kvs, Sum.inl e.one, rfl, hd, rfl, (by rw [hv] <;> rfl), ?_⟩
    refine k _ ⟨⟨dx, by rw [upd_ne hnd]; exact h1⟩, ⟨_, upd_same, paired_mono (paired_drop e.one hc) fun a kv h => ?_⟩, hb⟩ fun b o hb2 ho => by rw [upd_ne hb2]; exact ho
    obtain ⟨k1, t2, k2, k3⟩ := h
    exact ⟨k1, t2, k2, by rw [upd_ne (ne_of k3 hd (by intro z; cases z))]; exact k3⟩
/-! #### Clos.at -/
/-- what at tells -/
def AtV (g : Int) (c : List Call) (sd sw nm : Int) (v : V) : Prop := (∃ e ∈ c, v = .int e.one ∧ swt g sd e = sw ∧ e.mid = nm) ∨ (v = .non ∧ ∀ e ∈ c, swt g sd e = sw → e.mid ≠ nm)
def spAt (CC : Addr) : Sp := fun vs H Q _ => ∃ (n d : Addr) (m g s : Int) (c : List Call) (sd sw nm : Int), vs = [.ref n, .int sd, .int sw, .int nm] ∧ NetAt CC H n d m g s c ∧ c.length ≤ 9 ∧ (c.map Call.one).Nodup ∧ (sd = 0 ∨ sd = 1) ∧
  ∀ (v : V) (H' : Hp), Same H H' → AtV g c sd sw nm v → Q v H'
theorem scAt : FnScope ["self", "side", "switch", "number", "gate"] ["self", "side", "switch", "number"] (defScope sAt) := ⟨rfl, rfl, rfl, by decide +kernel, rfl, by decide +kernel, by decide +kernel⟩
theorem at_pair {a b sd : Int} (h : sd = 0 ∨ sd = 1) : atI [V.int a, V.int b] sd = some (V.int (if sd = 0 then a else b)) := by
  rcases h with rfl | rfl <;> rfl
theorem ok_at (F : FnS K "at" "Clos.at" sAt f fd) (T : Txt K mg CC CE) (FE : FnS K "ends" "Clos.ends" sEnds fE fdE) (mE : Meth K CC "ends" fE) : FnOk P w K mg base CX0 2 f fd ["self", "side", "switch", "number"] (spAt CC) := by
  have GE : FnOk P w K mg base CX0 1 fE fdE ["self", "one", "other"] (spEnds CC) := ok_ends FE T
  have bE : Binds K fdE ["self", "one", "other"] [] := FE.bindsN fun _ _ _ _ _ _ us hl => match us, hl with | [_, _, _], _ => rfl
  refine F.ok scAt (fun vs H Q E h => ?_) (fun cdv A outer s0 H vs Q E hr h => ?_)
  · obtain ⟨n, d, m, g, s, c, sd, sw, nm, rfl, _⟩ := h
    rfl
  · obtain ⟨n, d, m, g, s, c, sd, sw, nm, rfl, N, hlen, hn, hsd, k⟩ := h
    obtain ⟨⟨dx, h1⟩, ⟨kvs, hd, hc⟩, hb⟩ := id N
    refine ⟨_, PSs.nox (pss_cons (ps_for PassesOwn.never rfl (pi_list (pe_callB (call_sortedDI rfl) (by rfl) T.gSorted (by decide +kernel) (pa_cons (pe_fld (pv 0) rfl) pa_nil))) (pg_name (i := 4) scAt.nd rfl (Or.inl rfl))
        (pss_one (ps_if (PW.pt (pw_and (pt_cmpR op_eq (pe_ix ix_tup (pe_meth (pv 0) T.clC mE GE hr bE .nil pass0 (pa_cons (pv 4) (pa_cons (pe_ix ix_tup (pe_dget (hu_of hr) (pe_fld (pv 0) rfl) (pv 4) (fun _ _ => rfl)) pe_int (fun _ _ => rfl)) pa_nil))) (pv 1) (fun _ _ => rfl)) (pv 2) (nomark _))
          (pw_and1 (pt_cmpR op_eq (pe_ix ix_tup (pe_dget (hu_of hr) (pe_fld (pv 0) rfl) (pv 4) (fun _ _ => rfl)) pe_int (fun _ _ => rfl)) (pv 3) (nomark _))))) (pss_one (ps_ret (pv 4))) pss_nil)))
      (pss_one (ps_ret pe_non))), ?_⟩
    have noE : (nf m g s d).lookup ("ends" : Str) = none := nf_no _ _ _ _ (by decide +kernel)
    have hk1 : kvs.map (·.1) = (c.map Call.one).map Sum.inl := keys_calls hc
    refine ⟨_, rfl, n, CC, dx, _, _, rfl, h1, T.clC, T.nCal, nf_calls _ _ _ _, d, kvs, c.map Call.one, rfl, Rd.of hd, hk1, (by rw [List.length_map]; omega), fun ys p hp hs hp0 => ?_⟩
    have S1 : Same H (upd H p (.lst (ys.map V.int))) := same_new hp0
    refine ⟨p, rfl, ⟨_, SqL.of upd_same⟩, for_list (K := K) (a := p) (xs := ys.map V.int) (fun i σ Hc => ∃ v4 : Option V, σ = [some (.ref n), some (.int sd), some (.int sw), some (.int nm), v4] ∧ Same (upd H p (.lst (ys.map V.int))) Hc ∧ ∀ e ∈ c, e.one ∈ ys.take i → swt g sd e = sw → e.mid ≠ nm)
      ⟨none, rfl, Same.refl _, fun e _ h => by simp at h⟩ (fun i σ Hc _ ⟨_, _, S, _⟩ => SqL.of (S _ _ upd_same)) ?_ ?_⟩
    · rintro i y σ Hc hi ⟨v4, rfl, Sc, hno⟩
      obtain ⟨z, hz, rfl⟩ : ∃ z, ys[i]? = some z ∧ y = V.int z := by
        rw [List.getElem?_map] at hi
        cases e : ys[i]? with
        | none =>
          rw [e] at hi
          cases hi
        | some z =>
          rw [e] at hi
          exact ⟨z, rfl, (Option.some.inj hi).symm⟩
      have hm : z ∈ c.map Call.one := hp.mem_iff.mp (List.mem_of_getElem? hz)
      obtain ⟨e, he, rfl⟩ := List.mem_map.mp hm
      obtain ⟨t, hv, ht⟩ := valV_calls hc hn he
      have S2 : Same H Hc := S1.trans Sc
      refine ⟨_, rfl, n, dx, _, rfl, S2 _ _ h1, noE, _, rfl, _, rfl, n, CC, dx, _, _, rfl, S2 _ _ h1, T.clC, T.nCal, nf_calls _ _ _ _, _, rfl, d, .ref t, rfl, ?_, t, _, _, _, rfl, rfl, SqT.of (S2 _ _ ht), rfl,
        n, d, m, g, s, c, e.one, e.goal, rfl, N.same S2, fun q hq => ?_⟩
      · rw [← hv]
        exact DGet.k (k := Sum.inl e.one) (S2 _ _ hd)
      have S3 : Same Hc (upd Hc q (.tup [.int (e.one / g), .int (e.goal / g)])) := same_new hq
      refine ⟨_, rfl, q, _, _, _, rfl, rfl, SqT.of upd_same, at_pair hsd, _, rfl, rfl, _, rfl, ?_⟩
      have esw : (if sd = 0 then e.one / g else e.goal / g) = swt g sd e := rfl
      rw [esw]
      have next : (swt g sd e = sw → e.mid ≠ nm) → ∀ e' ∈ c, e'.one ∈ ys.take (i + 1) → swt g sd e' = sw → e'.mid ≠ nm := fun hh e' he' hx => by
        rw [List.take_succ, hz] at hx
        rcases List.mem_append.mp hx with h | h
        · exact hno e' he' h
        · have : e'.one = e.one := by simpa using h
          rw [map_inj_on hn e' he' e he this]
          exact hh
      by_cases hs1 : swt g sd e = sw
      · rw [decide_eq_true (congrArg V.int hs1)]
        refine iteT ⟨_, rfl, n, CC, dx, _, _, rfl, S3 _ _ (S2 _ _ h1), T.clC, T.nCal, nf_calls _ _ _ _, _, rfl, d, .ref t, rfl, ?_, t, _, _, _, rfl, rfl, SqT.of (S3 _ _ (S2 _ _ ht)), rfl, _, rfl, rfl, _, rfl, ?_⟩
        · rw [← hv]
          exact DGet.k (k := Sum.inl e.one) (S3 _ _ (S2 _ _ hd))
        by_cases hs2 : e.mid = nm
        · rw [decide_eq_true (congrArg V.int hs2)]
          exact iteT ⟨_, rfl, k _ _ (S2.trans S3) (.inl ⟨e, he, rfl, hs1, hs2⟩)⟩
        · rw [decide_eq_false (fun z => hs2 (V.int.inj z))]
          exact iteF ⟨_, rfl, Sc.trans S3, next fun _ => hs2⟩
      · rw [decide_eq_false (fun z => hs1 (V.int.inj z))]
        exact iteF (iteF ⟨_, rfl, Sc.trans S3, next fun z => (hs1 z).elim⟩)
    · rintro σ Hc ⟨v4, rfl, Sc, hno⟩
      refine k _ _ (S1.trans Sc) (.inr ⟨rfl, fun e he => hno e he ?_⟩)
      rw [List.length_map, List.take_length]
      exact hp.mem_iff.mpr (List.mem_map_of_mem he)
end
end Clx
/-! ## K6 -/
set_option Elab.async false
set_option linter.all false
set_option maxRecDepth 100000
set_option maxHeartbeats 4000000
/-! ### shown, exchange -/
namespace Clx
open PySem PySem.Spec PyProof.Rows L2
theorem map_get {α β : Type} {f : α → β} {l : List α} {i : Nat} {y : β} (h : (l.map f)[i]? = some y) : ∃ x, l[i]? = some x ∧ y = f x := by
  rw [List.getElem?_map] at h
  cases e : l[i]? with
  | none =>
    rw [e] at h
    cases h
  | some x =>
    rw [e] at h
    exact ⟨x, rfl, (Option.some.inj h).symm⟩
section
variable {P : Program} {w : World} {K : PySem.W.Frag} {mg : Str → Option Value} {base : Heap} {CC CE f fE fA : Addr} {fd fdE fdA : FuncData}
/-! #### Clos.shown -/
def spShown (CC : Addr) : Sp := fun vs H Q _ => ∃ (n d : Addr) (m g s : Int) (c : List Call), vs = [.ref n] ∧ NetAt CC H n d m g s c ∧ c.length ≤ 9 ∧ (c.map Call.one).Nodup ∧
  ∀ (es : List Call) (p : Addr) (H' : Hp), es.Perm c → Same H H' → H p = none → ShownAt H' p es → Q (.ref p) H'
theorem scShown : FnScope ["self", "one"] ["self"] (defScope sShown) := ⟨rfl, rfl, rfl, by decide +kernel, rfl, by decide +kernel, by decide +kernel⟩
theorem ok_shown (F : FnS K "shown" "Clos.shown" sShown f fd) (T : Txt K mg CC CE) : FnOk P w K mg base CX0 1 f fd ["self"] (spShown CC) := by
  refine F.ok scShown (fun vs H Q E h => ?_) (fun cdv A outer s0 H vs Q E hr h => ?_)
  · obtain ⟨n, d, m, g, s, c, rfl, _⟩ := h
    rfl
  · obtain ⟨n, d, m, g, s, c, rfl, N, hlen, hn, k⟩ := h
    obtain ⟨⟨dx, h1⟩, ⟨kvs, hd, hc⟩, hb⟩ := id N
    have hu := hu_of hr
    refine ⟨_, PSs.nox (pss_one (ps_ret (pe_callTy call_tuple_of (by rfl) T.gTuple (by decide +kernel) (pa_cons (pe_lc (own := [("one", 1)]) (g := gName 1) (tt := tYes)
      (te := tTup (tCons (tVar 1) (tCons (tOp (rIxT K) (tDGet (tFld K (tVar 0) "calls") (tVar 1)) (tC (.int 0))) (tCons (tOp (rIxT K) (tDGet (tFld K (tVar 0) "calls") (tVar 1)) (tC (.int 1))) tNil))))
      rfl scShown.nd (pi_list (pe_callB (call_sortedDI rfl) (by rfl) T.gSorted (by decide +kernel) (pa_cons (pe_fld (pv 0) rfl) pa_nil))) (blkOk_by (N := ["self", "one"]) (sc := defScope sShown) (by decide +kernel))
      (fun _ _ _ _ _ => pg_name (i := 1) scShown.nd rfl (Or.inl rfl)) (fun _ _ _ _ _ => pts_nil)
      (fun _ _ _ _ _ => pe_tup (pa_cons (pv 1) (pa_cons (pe_ix ix_tup (pe_dget hu (pe_fld (pv 0) rfl) (pv 1) (fun _ _ => rfl)) pe_int (fun _ _ => rfl)) (pa_cons (pe_ix ix_tup (pe_dget hu (pe_fld (pv 0) rfl) (pv 1) (fun _ _ => rfl)) pe_int (fun _ _ => rfl)) pa_nil))))) pa_nil)))), ?_⟩
    have hk1 : kvs.map (·.1) = (c.map Call.one).map Sum.inl := keys_calls hc
    refine ⟨_, rfl, n, CC, dx, _, _, rfl, h1, T.clC, T.nCal, nf_calls _ _ _ _, d, kvs, c.map Call.one, rfl, Rd.of hd, hk1, (by rw [List.length_map]; omega), fun ys p hp hs hp0 => ?_⟩
    obtain ⟨es, hes, rfl⟩ := perm_lift hp rfl
    have S1 : Same H (upd H p (.lst ((es.map Call.one).map V.int))) := same_new hp0
    refine ⟨p, rfl, ⟨_, SqL.of upd_same⟩, fun D hD => ?_⟩
    have hDp : D ≠ p := fun z => by
      rw [z, upd_same] at hD
      cases hD
    refine lc_list (K := K) (a := p) (xs := (es.map Call.one).map V.int) (fun i Hc => Same (upd H p (.lst ((es.map Call.one).map V.int))) Hc ∧ ∃ ts : List Addr, Hc D = some (.lst (ts.map V.ref)) ∧ Paired (fun (e : Call) (t : Addr) => Hc t = some (.tup [.int e.one, .int e.goal, .int e.mid])) (es.take i) ts)
      ⟨same_new hD, [], upd_same, .nil⟩ (fun i Hc _ h => SqL.of (h.1 _ _ upd_same)) ?_ ?_
    · rintro i y Hc hi ⟨Sc, ts, hl, ht⟩
      obtain ⟨z, hz, rfl⟩ := map_get hi
      obtain ⟨e, he, rfl⟩ := map_get hz
      have hm : e ∈ c := hes.mem_iff.mp (List.mem_of_getElem? he)
      obtain ⟨t, hv, htt⟩ := valV_calls hc hn hm
      have S2 : Same H Hc := S1.trans Sc
      have hg : DGet Hc d (V.int e.one) (some (.ref t)) := by
        rw [← hv]
        exact DGet.k (k := Sum.inl e.one) (S2 _ _ hd)
      have hlt : ts.length = i := by
        have q1 := paired_len ht
        have q2 := (List.getElem?_eq_some_iff.mp he).1
        rw [List.length_take] at q1
        omega
      have hel : i < es.length := (List.getElem?_eq_some_iff.mp he).1
      have hel2 : es.length = c.length := hes.length_eq
      refine ⟨rfl, iteT (B := True) ⟨_, rfl, _, rfl, n, CC, dx, _, _, rfl, S2 _ _ h1, T.clC, T.nCal, nf_calls _ _ _ _, _, rfl, d, .ref t, rfl, hg, t, _, _, _, rfl, rfl, SqT.of (S2 _ _ htt), rfl,
        _, rfl, n, CC, dx, _, _, rfl, S2 _ _ h1, T.clC, T.nCal, nf_calls _ _ _ _, _, rfl, d, .ref t, rfl, hg, t, _, _, _, rfl, rfl, SqT.of (S2 _ _ htt), rfl, (by show 3 ≤ sizeLine; decide), fun q hq => ?_⟩⟩
      have nDq : D ≠ q := ne_of_none hl hq
      refine ⟨_, by rw [upd_ne nDq]; exact hl, (by rw [List.length_map]; exact small1000 (by omega)), fun b o h => ?_, ts ++ [q], ?_, ?_⟩
      · rw [upd_ne (ne_of_none h hD), upd_ne (ne_of_none (Sc _ _ h) hq)]
        exact Sc _ _ h
      · rw [upd_same, List.map_append] <;> rfl
      · rw [List.take_succ, he]
        refine paired_snoc (paired_mono ht fun e' t' h' => ?_) ?_
        · have n1 : t' ≠ D := fun z => by
            rw [z, hl] at h'
            cases h'
          rw [upd_ne n1, upd_ne (ne_of_none h' hq)]
          exact h'
        · rw [upd_ne nDq.symm, upd_same]
    · rintro Hc ⟨Sc, ts, hl, ht⟩
      rw [List.length_map, List.length_map, List.take_length] at ht
      refine ⟨D, _, rfl, .inl ⟨SqL.of hl, fun q hq => ?_⟩⟩
      have S2 : Same H Hc := S1.trans Sc
      exact k es q _ hes (S2.trans (same_new hq)) (S2.free hq) ⟨ts, upd_same, paired_mono ht fun e' t' h' => by rw [upd_ne (ne_of_none h' hq)]; exact h'⟩
end
end Clx
/-! ## K7 -/
set_option Elab.async false
set_option linter.all false
set_option maxRecDepth 100000
set_option maxHeartbeats 4000000
set_option pp.maxSteps 1200
set_option pp.deepTerms false
/-! ### exchange -/
namespace Clx
open PySem PySem.Spec PyProof.Rows L2
/-- a call's new place: at x now y, z -/
def setC (x y z : Int) (f : Call) : Call := if f.one = x then ⟨x, y, z⟩ else f
theorem paired_put {H H' : Hp} {x y z : Int} {t : Addr} (ht : H' t = some (.tup [.int y, .int z])) (hs : ∀ b xs, H b = some (.tup xs) → H' b = some (.tup xs)) : ∀ {c : List Call} {kvs : List (Key × V)}, Paired (EntAt H) c kvs →
    Paired (EntAt H') (c.map (setC x y z)) (kvs.map fun kv => if kv.1 = (Sum.inl x : Key) then (kv.1, V.ref t) else kv)
  | _, _, .nil => .nil
  | e :: c, kv :: kvs, .cons hh htl => by
    have ih := paired_put (x := x) ht hs htl
    rw [List.map_cons, List.map_cons]
    refine .cons ?_ ih
    obtain ⟨k1, u, k2, k3⟩ := hh
    by_cases h : e.one = x
    · have h2 : kv.1 = (Sum.inl x : Key) := by rw [k1, h]
      rw [if_pos h2]
      unfold setC
      rw [if_pos h]
      exact ⟨h2, t, rfl, ht⟩
    · have h2 : ¬ kv.1 = (Sum.inl x : Key) := fun q => by
        rw [k1] at q
        exact h (Sum.inl.inj q)
      rw [if_neg h2]
      unfold setC
      rw [if_neg h]
      exact ⟨k1, u, k2, hs _ _ k3⟩
theorem putK_old {kvs : List (Key × V)} {k : Key} {u v : V} (h : valV kvs k = some u) : putK kvs k v = kvs.map fun kv => if kv.1 = k then (kv.1, v) else kv := by
  unfold putK
  rw [if_pos]
  rw [valV_any, h] <;> rfl
theorem sw1_step {m g s : Int} {c : List Call} (G : Good m g s c) {a b : Int} {fs : List Int} {i : Nat} {e : Call} (he : e ∈ c) (hi : fs[i]? = some e.one) (hn : fs.Nodup) :
    (c.map (sw1 a b (fs.take i))).map (setC e.one e.goal (opp a b e.mid)) = c.map (sw1 a b (fs.take (i + 1))) := by
  rw [List.map_map]
  refine List.map_congr_left fun f hf => ?_
  have hlt := (List.getElem?_eq_some_iff.mp hi).1
  have hno : e.one ∉ fs.take i := fun z => by
    obtain ⟨j, hj⟩ := List.mem_iff_getElem?.mp z
    have hj2 : j < i := by
      have := (List.getElem?_eq_some_iff.mp hj).1
      rw [List.length_take] at this
      omega
    rw [List.getElem?_take_of_lt hj2] at hj
    have := nd_ix hn hj hi
    omega
  show setC e.one e.goal (opp a b e.mid) (sw1 a b (fs.take i) f) = sw1 a b (fs.take (i + 1)) f
  have e1 : (fs.take (i + 1)) = fs.take i ++ [e.one] := by rw [List.take_succ, hi] <;> rfl
  by_cases hfe : f.one = e.one
  · have : f = e := G.oneEq hf he hfe
    subst this
    unfold sw1 setC
    rw [if_neg hno, if_pos rfl, e1, if_pos (by simp)]
  · have h1 : (sw1 a b (fs.take i) f).one = f.one := sw1_one _ _ _ _
    unfold setC
    rw [h1, if_neg hfe]
    unfold sw1
    rw [e1]
    by_cases hm : f.one ∈ fs.take i
    · rw [if_pos hm, if_pos (List.mem_append_left _ hm)]
    · rw [if_neg hm, if_neg (by simp [hm, hfe])]
theorem sw1_same {a b : Int} {fs : List Int} {e : Call} (h : e.one ∉ fs) : sw1 a b fs e = e := by
  unfold sw1
  rw [if_neg h]
/-- how the while of exchange stands: a way es, and the next gate -/
structure WhAt (g : Int) (c : List Call) (st a b : Int) (es : List Call) (v : V) : Prop where
  way : Way g c st a b es
  nx : AtV g c (sideAt es.length) (swAt g st es es.length) (numAt a b es.length) v
theorem ite_var {σ : L2.St} {i j : Nat} {H : Hp} {Q : VK} {a b k : Int} (hi : σ[i]? = some (some (.int b))) (hj : σ[j]? = some (some (.int a))) (h : Q (.int (opp a b k)) H) : if decide (V.int k = V.int a) = true then tVar i σ H Q else tVar j σ H Q := by
  unfold opp at h
  by_cases c : k = a
  · rw [if_pos c] at h
    rw [if_pos (decide_eq_true (congrArg V.int c))]
    exact ⟨_, hi, h⟩
  · rw [if_neg c] at h
    rw [if_neg (by simpa using c)]
    exact ⟨_, hj, h⟩
def WhSt (g : Int) (c : List Call) (st a b : Int) (n fl : Addr) (H : Hp) (es : List Call) (σ : L2.St) (Hc : Hp) : Prop := ∃ (v : V) (v9 : Option V),
  σ = [some (.ref n), some (.int st), some (.int a), some (.int b), some (.int (sideAt es.length)), some (.int (swAt g st es es.length)), some (.int (numAt a b es.length)), some (.ref fl), some v, v9] ∧
  WhAt g c st a b es v ∧ Hc fl = some (.lst ((es.map Call.one).map V.int)) ∧ Same H Hc
section
variable {P : Program} {w : World} {K : PySem.W.Frag} {mg : Str → Option Value} {base : Heap} {CC CE f fE fA : Addr} {fd fdE fdA : FuncData}
def spExchange (CC : Addr) : Sp := fun vs H Q _ => ∃ (n d : Addr) (m g s : Int) (c : List Call) (st a b : Int), vs = [.ref n, .int st, .int a, .int b] ∧ NetAt CC H n d m g s c ∧ Good m g s c ∧ c.length ≤ 9 ∧ a ≠ b ∧ (∀ e ∈ c, e.goal / g = st → e.mid ≠ b) ∧
  ∀ (es : List Call) (p : Addr) (xs : List V) (H' : Hp), Way g c st a b es → (∀ e ∈ c, swt g (sideAt es.length) e = swAt g st es es.length → e.mid ≠ numAt a b es.length) → NetAt CC H' n d m g s (c.map (sw1 a b (es.map Call.one))) → (∀ x o, x ≠ d → H x = some o → H' x = some o) →
    H p = none → H' p = some (.tup xs) → Q (.ref p) H'
theorem scExchange : FnScope ["self", "start", "one", "other", "side", "switch", "number", "found", "gate", "goal"] ["self", "start", "one", "other"] (defScope sExchange) := ⟨rfl, rfl, rfl, by decide +kernel, rfl, by decide +kernel, by decide +kernel⟩
theorem ok_exchange (F : FnS K "exchange" "Clos.exchange" sExchange f fd) (T : Txt K mg CC CE) (FE : FnS K "ends" "Clos.ends" sEnds fE fdE) (mE : Meth K CC "ends" fE) (FA : FnS K "at" "Clos.at" sAt fA fdA) (mA : Meth K CC "at" fA) :
    FnOk P w K mg base CX0 3 f fd ["self", "start", "one", "other"] (spExchange CC) := by
  have GE : FnOk P w K mg base CX0 1 fE fdE ["self", "one", "other"] (spEnds CC) := ok_ends FE T
  have bE : Binds K fdE ["self", "one", "other"] [] := FE.bindsN fun _ _ _ _ _ _ us hl => match us, hl with | [_, _, _], _ => rfl
  have GA : FnOk P w K mg base CX0 2 fA fdA ["self", "side", "switch", "number"] (spAt CC) := ok_at FA T FE mE
  have bA : Binds K fdA ["self", "side", "switch", "number"] [] := FA.bindsN fun _ _ _ _ _ _ us hl => match us, hl with | [_, _, _, _], _ => rfl
  refine F.ok scExchange (fun vs H Q E h => ?_) (fun cdv A outer s0 H vs Q E hr h => ?_)
  · obtain ⟨n, d, m, g, s, c, st, a, b, rfl, _⟩ := h
    rfl
  · obtain ⟨n, d, m, g, s, c, st, a, b, rfl, N, G, hlen, hab, hfb, k⟩ := h
    obtain ⟨⟨dx, h1⟩, ⟨kvs, hd, hc⟩, hb⟩ := id N
    have hu := hu_of hr
    have hr1 : Room 1 _ := hr.mono (by decide)
    refine ⟨_, PSs.nox (pss_cons (ps_asg (pe_tup (pa_cons pe_int (pa_cons (pv 1) (pa_cons (pv 2) (pa_cons (pe_lst pa_nil) pa_nil)))))
        (pg_tup rfl (pgs_cons (pg_name (i := 4) scExchange.nd rfl (Or.inl rfl)) (pgs_cons (pg_name (i := 5) scExchange.nd rfl (Or.inl rfl)) (pgs_cons (pg_name (i := 6) scExchange.nd rfl (Or.inl rfl)) (pgs_cons (pg_name (i := 7) scExchange.nd rfl (Or.inl rfl)) pgs_nil))))))
      (pss_cons (ps_set (i := 8) scExchange.nd rfl (Or.inl rfl) (pe_meth (pv 0) T.clC mA GA hr bA .nil pass0 (pa_cons (pv 4) (pa_cons (pv 5) (pa_cons (pv 6) pa_nil)))))
      (pss_cons (ps_while PassesOwn.never (pt_cmpR op_notN (pv 8) pe_non (nomark _))
        (pss_cons (ps_expr (pe_bm PySem.F.plainAttrs_list PySem.F.slot_list_append PySem.F.type_list_append mt_append (pv 7) (pa_cons (pv 8) pa_nil)))
        (pss_cons (ps_set (i := 5) scExchange.nd rfl (Or.inl rfl) (pe_ix ix_tup (pe_meth (pv 0) T.clC mE GE hr1 bE .nil pass0 (pa_cons (pv 8) (pa_cons (pe_ix ix_tup (pe_dget hu (pe_fld (pv 0) rfl) (pv 8) (fun _ _ => rfl)) pe_int (fun _ _ => rfl)) pa_nil))) (pe_op op_sub pe_int (pv 4)) (fun _ _ => rfl)))
        (pss_cons (ps_set (i := 4) scExchange.nd rfl (Or.inl rfl) (pe_op op_sub pe_int (pv 4)))
        (pss_cons (ps_set (i := 6) scExchange.nd rfl (Or.inl rfl) (pe_ifExp (pt_cmpR op_eq (pv 6) (pv 2) (nomark _)) (pv 3) (pv 2)))
        (pss_one (ps_set (i := 8) scExchange.nd rfl (Or.inl rfl) (pe_meth (pv 0) T.clC mA GA hr bA .nil pass0 (pa_cons (pv 4) (pa_cons (pv 5) (pa_cons (pv 6) pa_nil)))))))))))
      (pss_cons (ps_for PassesOwn.never rfl (pi_list (pv 7)) (pg_name (i := 8) scExchange.nd rfl (Or.inl rfl))
        (pss_cons (ps_asg (pe_dget hu (pe_fld (pv 0) rfl) (pv 8) (fun _ _ => rfl)) (pg_tup rfl (pgs_cons (pg_name (i := 9) scExchange.nd rfl (Or.inl rfl)) (pgs_cons (pg_name (i := 6) scExchange.nd rfl (Or.inl rfl)) pgs_nil))))
        (pss_one (ps_dput hu (pe_fld (pv 0) rfl) (pv 8) (pe_tup (pa_cons (pv 9) (pa_cons (pe_ifExp (pt_cmpR op_eq (pv 6) (pv 2) (nomark _)) (pv 3) (pv 2)) pa_nil))) rfl))))
      (pss_one (ps_ret (pe_callTy call_tuple_of (by rfl) T.gTuple (by decide +kernel) (pa_cons (pe_callB cr_sorted (by rfl) T.gSorted (by decide +kernel) (pa_cons (pv 7) pa_nil)) pa_nil)))))))), ?_⟩
    have noA : (nf m g s d).lookup ("at" : Str) = none := nf_no _ _ _ _ (by decide +kernel)
    have noE : (nf m g s d).lookup ("ends" : Str) = none := nf_no _ _ _ _ (by decide +kernel)
    -- side, switch, number, found = 1, start, one, []
    refine ⟨_, rfl, _, rfl, (by show 0 ≤ sizeLine; decide), fun fl hfl => ⟨(by show 4 ≤ sizeLine; decide), fun p4 hp4 => ?_⟩⟩
    refine ⟨p4, _, rfl, SqT.of upd_same, rfl, _, _, rfl, _, _, rfl, _, _, rfl, _, _, rfl, rfl, ?_⟩
    have S1 : Same H (upd H fl (.lst [])) := same_new hfl
    have S2 : Same H (upd (upd H fl (.lst [])) p4 (.tup [.int 1, .int st, .int a, .ref fl])) := S1.trans (same_new hp4)
    have hfl2 : upd (upd H fl (.lst [])) p4 (.tup [.int 1, .int st, .int a, .ref fl]) fl = some (.lst []) := same_new hp4 _ _ upd_same
    -- gate = self.at(side, switch, number)
    refine ⟨_, rfl, n, dx, _, rfl, S2 _ _ h1, noA, _, rfl, _, rfl, _, rfl, n, d, m, g, s, c, 1, st, a, rfl, N.same S2, hlen, G.key, .inr rfl, fun v0 H3 S3 hv0 => ?_⟩
    have S03 : Same H H3 := S2.trans S3
    -- the while
    refine ⟨fun k σ Hc => ∃ es : List Call, WhSt g c st a b n fl H es σ Hc ∧ k = c.length + 1 - es.length, ⟨c.length + 1, [], ⟨v0, none, rfl, ⟨way_nil, hv0⟩, S3 _ _ hfl2, S03⟩, rfl⟩, ?_⟩
    rintro k0 σ Hc ⟨es, ⟨v, v9, rfl, W, hfl3, Sc⟩, rfl⟩
    have hlE := way_len G W.way hab hfb
    refine ⟨_, rfl, rfl, _, rfl, ?_⟩
    rcases W.nx with ⟨e, he, rfl, hsw, hnm⟩ | ⟨rfl, hend⟩
    · -- a turn
      rw [decide_eq_false (fun z => by cases z)]
      have W2 : Way g c st a b (es ++ [e]) := W.way.snoc he hnm hsw
      have hl2 := way_len G W2 hab hfb
      have hl3 : (es ++ [e]).length = es.length + 1 := by rw [List.length_append] <;> rfl
      rw [hl3] at hl2
      refine iteT ⟨fun σ' H' => WhSt g c st a b n fl H (es ++ [e]) σ' H', fun σ' H' h => ⟨_, by omega, es ++ [e], h, rfl⟩, ?_⟩
      obtain ⟨t, hv, ht⟩ := valV_calls hc G.key he
      -- found.append(gate)
      refine ⟨_, rfl, .inl ⟨rfl, _, SqL.of hfl3⟩, _, rfl, fl, _, _, rfl, rfl, hfl3, (by rw [List.length_map, List.length_map]; exact small1000 (by omega)), ?_⟩
      have Sa : Same H (upd Hc fl (.lst ((es.map Call.one).map V.int ++ [V.int e.one]))) := fun x o h => by
        rw [upd_ne (ne_of_none h hfl)]
        exact Sc x o h
      have hg : ∀ {H' : Hp}, Same H H' → DGet H' d (V.int e.one) (some (.ref t)) := fun S => by
        rw [← hv]
        exact DGet.k (k := Sum.inl e.one) (S _ _ hd)
      have hside : (1 : Int) - sideAt es.length = sideAt (es ++ [e]).length := by
        rw [hl3]
        unfold sideAt
        split <;> split <;> omega
      have hside2 := sideAt_two (es ++ [e]).length
      have hswn : (if (1 : Int) - sideAt es.length = 0 then e.one / g else e.goal / g) = swAt g st (es ++ [e]) (es ++ [e]).length := by
        rw [hside, hl3]
        show swt g (sideAt (es.length + 1)) e = (match (es ++ [e])[es.length]? with | some e => swt g (sideAt (es.length + 1)) e | none => st)
        rw [List.getElem?_append_right (Nat.le_refl _), Nat.sub_self] <;> rfl
      have hnum : opp a b (numAt a b es.length) = numAt a b (es ++ [e]).length := by
        rw [hl3]
        exact opp_num hab _
      -- switch = self.ends(gate, self.calls[gate][0])[1 - side]
      refine ⟨_, rfl, n, dx, _, rfl, Sa _ _ h1, noE, _, rfl, _, rfl, n, CC, dx, _, _, rfl, Sa _ _ h1, T.clC, T.nCal, nf_calls _ _ _ _, _, rfl, d, .ref t, rfl, hg Sa, t, _, _, _, rfl, rfl, SqT.of (Sa _ _ ht), rfl,
        n, d, m, g, s, c, e.one, e.goal, rfl, N.same Sa, fun q hq => ?_⟩
      have Sb : Same H (upd (upd Hc fl (.lst ((es.map Call.one).map V.int ++ [V.int e.one]))) q (.tup [.int (e.one / g), .int (e.goal / g)])) := Sa.trans (same_new hq)
      have hflb : upd (upd Hc fl (.lst ((es.map Call.one).map V.int ++ [V.int e.one]))) q (.tup [.int (e.one / g), .int (e.goal / g)]) fl = some (.lst (((es ++ [e]).map Call.one).map V.int)) := by
        rw [same_new hq _ _ upd_same, List.map_append, List.map_append] <;> rfl
      refine ⟨_, rfl, _, _, rfl, rfl, q, _, _, _, rfl, rfl, SqT.of upd_same, at_pair (by rw [hside]; exact hside2), ?_⟩
      rw [hswn]
      -- side = 1 - side
      refine ⟨_, rfl, _, _, rfl, rfl, ?_⟩
      -- number = other if number == one else one
      refine ⟨_, rfl, _, rfl, rfl, _, rfl, ite_var rfl rfl ?_⟩
      rw [hnum]
      -- gate = self.at(side, switch, number)
      refine ⟨_, rfl, n, dx, _, rfl, Sb _ _ h1, noA, _, rfl, _, rfl, _, rfl, n, d, m, g, s, c, (1 - sideAt es.length), _, _, rfl, N.same Sb, hlen, G.key, (by rw [hside]; exact hside2), fun v1 H5 S5 hv1 => ?_⟩
      exact ⟨v1, v9, by rw [← hside] <;> rfl, ⟨W2, by rw [← hside]; exact hv1⟩, S5 _ _ hflb, Sb.trans S5⟩
    · -- the loop over found
      rw [decide_eq_true rfl]
      refine iteF ?_
      have hnd : n ≠ d := ne_of h1 hd (by intro z; cases z)
      have hnodup : (es.map Call.one).Nodup := nodup_map_of (way_nodup G W.way hab hfb) fun x hx y hy e => G.oneEq (W.way.mem x hx) (W.way.mem y hy) e
      have hfd : fl ≠ d := fun z => by
        rw [z, hd] at hfl
        cases hfl
      refine ⟨_, rfl, fl, rfl, ⟨_, SqL.of hfl3⟩, for_list (K := K) (a := fl) (xs := (es.map Call.one).map V.int) (fun i σ Hi => ∃ (v8 v9 v6 : Option V), σ = [some (.ref n), some (.int st), some (.int a), some (.int b), some (.int (sideAt es.length)), some (.int (swAt g st es es.length)), v6, some (.ref fl), v8, v9] ∧
        NetAt CC Hi n d m g s (c.map (sw1 a b ((es.map Call.one).take i))) ∧ Hi fl = some (.lst ((es.map Call.one).map V.int)) ∧ ∀ x o, x ≠ d → H x = some o → Hi x = some o)
        ⟨_, _, _, rfl, ?_, hfl3, fun x o _ h => Sc x o h⟩ (fun i σ Hi _ ⟨_, _, _, _, _, h, _⟩ => SqL.of h) ?_ ?_⟩
      · have e0 : c.map (sw1 a b ((es.map Call.one).take 0)) = c := by
          rw [List.take_zero]
          have : c.map (sw1 a b []) = c.map id := List.map_congr_left fun f _ => sw1_same (by simp)
          rw [this, List.map_id]
        rw [e0]
        exact N.same Sc
      · rintro i y σ Hi hi ⟨v8, v9, v6, rfl, Ni, hfi, Si⟩
        obtain ⟨z, hz, rfl⟩ := map_get hi
        obtain ⟨e, he, rfl⟩ := map_get hz
        have hec : e ∈ c := W.way.mem e (List.mem_of_getElem? he)
        obtain ⟨⟨dxi, h1i⟩, ⟨kvi, hdi, hci⟩, hbi⟩ := id Ni
        have hno : e.one ∉ (es.map Call.one).take i := fun q => by
          obtain ⟨j, hj⟩ := List.mem_iff_getElem?.mp q
          have hj2 : j < i := by
            have := (List.getElem?_eq_some_iff.mp hj).1
            rw [List.length_take] at this
            omega
          rw [List.getElem?_take_of_lt hj2] at hj
          have := nd_ix hnodup hj hz
          omega
        have hmem : e ∈ c.map (sw1 a b ((es.map Call.one).take i)) := List.mem_map.mpr ⟨e, hec, sw1_same hno⟩
        obtain ⟨t, hv, ht⟩ := valV_calls hci (by rw [map_one_sw1]; exact G.key) hmem
        have hg : DGet Hi d (V.int e.one) (some (.ref t)) := by
          rw [← hv]
          exact DGet.k (k := Sum.inl e.one) hdi
        have hkl : kvi.length = c.length := by rw [← hci.length, List.length_map]
        -- goal, number = self.calls[gate]
        refine ⟨_, rfl, n, CC, dxi, _, _, rfl, h1i, T.clC, T.nCal, nf_calls _ _ _ _, _, rfl, d, .ref t, rfl, hg, t, _, rfl, SqT.of ht, rfl, _, _, rfl, _, _, rfl, rfl, ?_⟩
        -- self.calls[gate] = (goal, other if number == one else one)
        refine ⟨_, rfl, _, rfl, _, rfl, rfl, _, rfl, ite_var rfl rfl ?_⟩
        refine ⟨(by show 2 ≤ sizeLine; decide), fun q hq => ?_⟩
        have Sq : Same Hi (upd Hi q (.tup [.int e.goal, .int (opp a b e.mid)])) := same_new hq
        have nqd : q ≠ d := fun z => by
          rw [z, hdi] at hq
          cases hq
        refine ⟨_, rfl, n, CC, dxi, _, _, rfl, Sq _ _ h1i, T.clC, T.nCal, nf_calls _ _ _ _, _, rfl, d, _, rfl, DPut.k (k := Sum.inl e.one) (Sq _ _ hdi) (small1000 (by omega)), ?_⟩
        refine ⟨_, _, _, rfl, ⟨⟨dxi, by rw [upd_ne hnd]; exact Sq _ _ h1i⟩, ⟨_, upd_same, ?_⟩, hb⟩, ?_, fun x o hx h => ?_⟩
        · rw [putK_old hv, ← sw1_step G hec hz hnodup]
          refine paired_put (H := Hi) (by rw [upd_ne nqd, upd_same]) (fun b' xs h => ?_) hci
          have hb' : b' ≠ d := ne_of h hdi (by intro z; cases z)
          rw [upd_ne hb']
          exact Sq _ _ h
        · rw [upd_ne hfd]
          exact Sq _ _ hfi
        · rw [upd_ne hx]
          exact Sq _ _ (Si x o hx h)
      · rintro σ Hi ⟨v8, v9, v6, rfl, Ni, hfi, Si⟩
        rw [List.length_map, List.length_map, List.take_of_length_le (by rw [List.length_map]; exact Nat.le_refl _)] at Ni
        refine ⟨_, rfl, fl, es.map Call.one, rfl, SqL.of hfi, (by rw [List.length_map]; omega), fun ns l hp hs hl => ⟨l, _, rfl, .inl ⟨SqL.of upd_same, fun p hp2 => ?_⟩⟩⟩
        have Sl : Same Hi (upd (upd Hi l (.lst (ns.map V.int))) p (.tup (ns.map V.int))) := (same_new hl).trans (same_new hp2)
        have hHp : H p = none := by
          cases q : H p with
          | none => rfl
          | some o =>
            by_cases hpd : p = d
            · subst hpd
              obtain ⟨_, ⟨kv, hkv, _⟩, _⟩ := Ni
              rw [(same_new hl) _ _ hkv] at hp2
              cases hp2
            · rw [(same_new hl) _ _ (Si p o hpd q)] at hp2
              cases hp2
        exact k es p _ _ W.way hend (Ni.same Sl) (fun x o hx h => Sl _ _ (Si x o hx h)) hHp upd_same
end
end Clx
/-! ## K8 -/
set_option Elab.async false
set_option linter.all false
set_option maxRecDepth 100000
set_option maxHeartbeats 4000000
set_option pp.maxSteps 1200
set_option pp.deepTerms false
/-! ### put_moving -/
namespace Clx
open PySem PySem.Spec PyProof.Rows L2
/-! #### lists of ints as data -/
def dInts (ns : List Int) : PyData := .list (ns.map PyData.int)
theorem dpAll_ints {K : PySem.W.Frag} {H : Hp} : ∀ ns : List Int, DpAll K H (ns.map V.int) (ns.map PyData.int)
  | [] => .nil
  | n :: r => .cons (.int n) (dpAll_ints r)
theorem dp_ints {K : PySem.W.Frag} {H : Hp} {l : Addr} {ns : List Int} (h : H l = some (.lst (ns.map V.int))) : Dp K H (.ref l) (dInts ns) := .lst (SqL.of h) (dpAll_ints ns)
theorem lay_ints : ∀ ns : List Int, PyData.canLayAll0 (ns.map PyData.int) = true
  | [] => rfl
  | n :: r => by
    rw [List.map_cons]
    show (PyData.canLay0 (.int n) && PyData.canLayAll0 (r.map PyData.int)) = true
    rw [lay_ints r] <;> rfl
theorem depth_ints : ∀ ns : List Int, PyData.depthAll (ns.map PyData.int) = 0
  | [] => rfl
  | n :: r => by
    rw [List.map_cons]
    show max (PyData.depth (.int n)) (PyData.depthAll (r.map PyData.int)) = 0
    rw [depth_ints r] <;> rfl
theorem shaped_ints (ns : List Int) : SeqAt.shaped (dInts ns) = true := by
  unfold SeqAt.shaped dInts
  rw [Bool.and_eq_true]
  refine ⟨lay_ints ns, decide_eq_true ?_⟩
  show PyData.depthAll (ns.map PyData.int) + 1 ≤ 64
  rw [depth_ints]
  decide
theorem eqvAll_ints : ∀ ns ms : List Int, PyData.eqvAll (ns.map PyData.int) (ms.map PyData.int) = decide (ns = ms)
  | [], [] => rfl
  | [], m :: ms => rfl
  | n :: ns, [] => rfl
  | n :: ns, m :: ms => by
    rw [List.map_cons, List.map_cons]
    show ((n == m) && PyData.eqvAll (ns.map PyData.int) (ms.map PyData.int)) = _
    rw [eqvAll_ints ns ms]
    by_cases h : n = m
    · subst h
      by_cases h2 : ns = ms <;> simp [h2]
    · simp [h]
theorem eqv_ints (ns ms : List Int) : PyData.eqv (dInts ns) (dInts ms) = decide (ns = ms) := eqvAll_ints ns ms
theorem mul_le9 {g s : Int} (h : 1 ≤ g ∧ g ≤ 3 ∧ 1 ≤ s ∧ s ≤ 3) : g * s ≤ 9 := by
  have : g = 1 ∨ g = 2 ∨ g = 3 := by omega
  rcases this with rfl | rfl | rfl <;> omega
def Call.pg (e : Call) : Int × Int := (e.one, e.goal)
theorem map_pg_sw1 (a b : Int) (fs : List Int) (c : List Call) : (c.map (sw1 a b fs)).map Call.pg = c.map Call.pg := by
  rw [List.map_map]
  exact List.map_congr_left fun e _ => by
    show ((sw1 a b fs e).one, (sw1 a b fs e).goal) = (e.one, e.goal)
    rw [sw1_one, sw1_goal]
/-- the numbers below m that are not told, in order -/
def freeL (m : Int) (l : List Int) : List Int := ((List.range m.toNat).map fun (i : Nat) => (i : Int)).filter fun k => decide (k ∉ l)
theorem mem_freeL {m k : Int} {l : List Int} : k ∈ freeL m l ↔ (0 ≤ k ∧ k < m) ∧ k ∉ l := by
  unfold freeL
  rw [List.mem_filter, decide_eq_true_iff, List.mem_map]
  constructor
  · rintro ⟨⟨i, hi, rfl⟩, h2⟩
    have := List.mem_range.mp hi
    exact ⟨⟨by omega, by omega⟩, h2⟩
  · rintro ⟨⟨h1, h2⟩, h3⟩
    exact ⟨⟨k.toNat, List.mem_range.mpr (by omega), by omega⟩, h3⟩
theorem CallsAt.put {C : Addr} {H : Hp} {n d q : Addr} {m g s : Int} {c : List Call} {kvs : List (Key × V)} {e : Call} (N : NetAt C H n d m g s c) (hd : H d = some (.dK kvs)) (hc : Paired (EntAt H) c kvs) (hk : ∀ f ∈ c, f.one ≠ e.one)
    (hq : H q = some (.tup [.int e.goal, .int e.mid])) : NetAt C (upd H d (.dK (putK kvs (Sum.inl e.one) (.ref q)))) n d m g s (c ++ [e]) := by
  obtain ⟨⟨dx, h1⟩, _, hb⟩ := id N
  have hnd : n ≠ d := ne_of h1 hd (by intro z; cases z)
  refine ⟨⟨dx, by rw [upd_ne hnd]; exact h1⟩, ⟨_, upd_same, ?_⟩, hb⟩
  rw [putK_new _ (valV_none hc hk)]
  refine paired_snoc (paired_mono hc fun a kv h => ?_) ⟨rfl, q, rfl, by rw [upd_ne (ne_of hq hd (by intro z; cases z))]; exact hq⟩
  obtain ⟨k1, t, k2, k3⟩ := h
  exact ⟨k1, t, k2, by rw [upd_ne (ne_of k3 hd (by intro z; cases z))]; exact k3⟩
section
variable {P : Program} {w : World} {K : PySem.W.Frag} {mg : Str → Option Value} {base : Heap} {CC CE f fC fS fF fE fI fO fX fA : Addr} {fd fdC fdS fdF fdE fdI fdO fdX fdA : FuncData}
def spPutM (CC : Addr) : Sp := fun vs H Q _ => ∃ (n d : Addr) (m g s : Int) (c : List Call) (x y : Int), vs = [.ref n, .int x, .int y] ∧ NetAt CC H n d m g s c ∧ Good m g s c ∧ g ≤ m ∧ (0 ≤ x ∧ x < g * s) ∧ (0 ≤ y ∧ y < g * s) ∧ (∀ e ∈ c, e.one ≠ x) ∧ (∀ e ∈ c, e.goal ≠ y) ∧
  ∀ (c' : List Call) (p : Addr) (xs : List V) (H' : Hp), Good m g s c' → c'.map Call.pg = c.map Call.pg ++ [(x, y)] → NetAt CC H' n d m g s c' → (∀ b o, b ≠ d → H b = some o → H' b = some o) → H' p = some (.tup xs) → (2 * g - 1 ≤ m → xs = []) → Q (.ref p) H'
theorem scPutM : FnScope ["self", "one", "other", "free", "here", "there", "mine", "theirs", "moved", "number"] ["self", "one", "other"] (defScope sPutM) := ⟨rfl, rfl, rfl, by decide +kernel, rfl, by decide +kernel, by decide +kernel⟩
theorem ok_putm (F : FnS K "put_moving" "Clos.put_moving" sPutM f fd) (T : Txt K mg CC CE) (FC : FnS K "check" "Clos.check" sCheck fC fdC) (mC : Meth K CC "check" fC) (FS : FnS K "size" "Clos.size" sSize fS fdS) (mS : Meth K CC "size" fS)
    (FF : FnS K "free_middle" "Clos.free_middle" sFreeM fF fdF) (mF : Meth K CC "free_middle" fF) (FE : FnS K "ends" "Clos.ends" sEnds fE fdE) (mE : Meth K CC "ends" fE)
    (FI : FnS K "used_in" "Clos.used_in" sUsedIn fI fdI) (mI : Meth K CC "used_in" fI) (FO : FnS K "used_out" "Clos.used_out" sUsedOut fO fdO) (mO : Meth K CC "used_out" fO)
    (FX : FnS K "exchange" "Clos.exchange" sExchange fX fdX) (mX : Meth K CC "exchange" fX) (FA : FnS K "at" "Clos.at" sAt fA fdA) (mA : Meth K CC "at" fA) :
    FnOk P w K mg base CX0 4 f fd ["self", "one", "other"] (spPutM CC) := by
  have GC : FnOk P w K mg base CX0 2 fC fdC ["self", "one", "other"] (spCheck CC) := ok_check FC T FS mS
  have bC : Binds K fdC ["self", "one", "other"] [] := FC.bindsN fun _ _ _ _ _ _ us hl => match us, hl with | [_, _, _], _ => rfl
  have GF : FnOk P w K mg base CX0 2 fF fdF ["self", "one", "other"] (spFree CC) := ok_freem FF T FE mE FI mI FO mO
  have bF : Binds K fdF ["self", "one", "other"] [] := FF.bindsN fun _ _ _ _ _ _ us hl => match us, hl with | [_, _, _], _ => rfl
  have GE : FnOk P w K mg base CX0 1 fE fdE ["self", "one", "other"] (spEnds CC) := ok_ends FE T
  have bE : Binds K fdE ["self", "one", "other"] [] := FE.bindsN fun _ _ _ _ _ _ us hl => match us, hl with | [_, _, _], _ => rfl
  have GI : FnOk P w K mg base CX0 1 fI fdI ["self", "switch"] (spUsed CC usedIn) := ok_usedin FI T
  have bI : Binds K fdI ["self", "switch"] [] := FI.bindsN fun _ _ _ _ _ _ us hl => match us, hl with | [_, _], _ => rfl
  have GO : FnOk P w K mg base CX0 1 fO fdO ["self", "switch"] (spUsed CC usedOut) := ok_usedout FO T
  have bO : Binds K fdO ["self", "switch"] [] := FO.bindsN fun _ _ _ _ _ _ us hl => match us, hl with | [_, _], _ => rfl
  have GX : FnOk P w K mg base CX0 3 fX fdX ["self", "start", "one", "other"] (spExchange CC) := ok_exchange FX T FE mE FA mA
  have bX : Binds K fdX ["self", "start", "one", "other"] [] := FX.bindsN fun _ _ _ _ _ _ us hl => match us, hl with | [_, _, _, _], _ => rfl
  refine F.ok scPutM (fun vs H Q E h => ?_) (fun cdv A outer s0 H vs Q E hr h => ?_)
  · obtain ⟨n, d, m, g, s, c, x, y, rfl, _⟩ := h
    rfl
  · obtain ⟨n, d, m, g, s, c, x, y, rfl, N, G, hgm, hx, hy, hkx, hky, k⟩ := h
    obtain ⟨⟨dx, h1⟩, ⟨kvs, hd, hc⟩, hb⟩ := id N
    have hu := hu_of hr
    have hr1 : Room 1 _ := hr.mono (by decide)
    have hr2 : Room 2 _ := hr.mono (by decide)
    refine ⟨_, PSs.nox (pss_cons (ps_expr (pe_meth (pv 0) T.clC mC GC hr2 bC .nil pass0 (pa_cons (pv 1) (pa_cons (pv 2) pa_nil))))
      (pss_cons (ps_set (i := 3) scPutM.nd rfl (Or.inl rfl) (pe_meth (pv 0) T.clC mF GF hr2 bF .nil pass0 (pa_cons (pv 1) (pa_cons (pv 2) pa_nil))))
      (pss_cons (ps_if (pt_cmpR (op_neD hr.units) (pv 3) (pe_lst pa_nil) (nomark _))
        (pss_cons (ps_dput hu (pe_fld (pv 0) rfl) (pv 1) (pe_tup (pa_cons (pv 2) (pa_cons (pe_ix ix_list (pv 3) pe_int (fun _ _ => rfl)) pa_nil))) rfl) (pss_one (ps_ret (pe_tup pa_nil)))) pss_nil)
      (pss_cons (ps_asg (pe_meth (pv 0) T.clC mE GE hr1 bE .nil pass0 (pa_cons (pv 1) (pa_cons (pv 2) pa_nil))) (pg_tup rfl (pgs_cons (pg_name (i := 4) scPutM.nd rfl (Or.inr rfl)) (pgs_cons (pg_name (i := 5) scPutM.nd rfl (Or.inr rfl)) pgs_nil))))
      (pss_cons (ps_setLc (i := 6) (own := [("number", 9)]) (g := gName 9) (tt := tTest (tOp (rIn K true) (tVar 9) (tMeth CC "used_in" (spUsed CC usedIn) [] E0 (tVar 0) (tCons (tVar 4) tNil)))) (te := tVar 9)
        rfl scPutM.nd rfl rfl (sw_true rfl rfl rfl (by decide +kernel)) (pi_range1 rfl T.gRange (pa_cons (pe_fld (pv 0) rfl) pa_nil)) (blkOk_by (N := ["self", "one", "other", "free", "here", "there", "mine", "theirs", "moved", "number"]) (sc := defScope sPutM) (by decide +kernel))
        (fun _ _ _ _ _ => pg_name (i := 9) scPutM.nd rfl (Or.inl rfl))
        (fun _ _ _ _ _ => pts_one (pt_cmpR op_notIn_seq (pv 9) (pe_meth (pv 0) T.clC mI GI hr1 bI .nil pass0 (pa_cons (pv 4) pa_nil)) (by rfl)))
        (fun _ _ _ _ _ => pv 9))
      (pss_cons (ps_setLc (i := 7) (own := [("number", 9)]) (g := gName 9) (tt := tTest (tOp (rIn K true) (tVar 9) (tMeth CC "used_out" (spUsed CC usedOut) [] E0 (tVar 0) (tCons (tVar 5) tNil)))) (te := tVar 9)
        rfl scPutM.nd rfl rfl (sw_true rfl rfl rfl (by decide +kernel)) (pi_range1 rfl T.gRange (pa_cons (pe_fld (pv 0) rfl) pa_nil)) (blkOk_by (N := ["self", "one", "other", "free", "here", "there", "mine", "theirs", "moved", "number"]) (sc := defScope sPutM) (by decide +kernel))
        (fun _ _ _ _ _ => pg_name (i := 9) scPutM.nd rfl (Or.inl rfl))
        (fun _ _ _ _ _ => pts_one (pt_cmpR op_notIn_seq (pv 9) (pe_meth (pv 0) T.clC mO GO hr1 bO .nil pass0 (pa_cons (pv 5) pa_nil)) (by rfl)))
        (fun _ _ _ _ _ => pv 9))
      (pss_cons (ps_if (PW.pt (pw_or (pt_cmpR (op_eqD hr.units) (pv 6) (pe_lst pa_nil) (nomark _)) (pw_or1 (pt_cmpR (op_eqD hr.units) (pv 7) (pe_lst pa_nil) (nomark _))))) (pss_one ps_never) pss_nil)
      (pss_cons (ps_set (i := 8) scPutM.nd rfl (Or.inl rfl) (pe_meth (pv 0) T.clC mX GX hr bX .nil pass0 (pa_cons (pv 5) (pa_cons (pe_ix ix_list (pv 6) pe_int (fun _ _ => rfl)) (pa_cons (pe_ix ix_list (pv 7) pe_int (fun _ _ => rfl)) pa_nil)))))
      (pss_cons (ps_dput hu (pe_fld (pv 0) rfl) (pv 1) (pe_tup (pa_cons (pv 2) (pa_cons (pe_ix ix_list (pv 6) pe_int (fun _ _ => rfl)) pa_nil))) rfl)
      (pss_one (ps_ret (pv 8)))))))))))), ?_⟩
    have hlen : c.length ≤ 9 := good_len G (mul_le9 ⟨hb.1, hb.2.1, hb.2.2.1, hb.2.2.2.1⟩)
    have hkl : kvs.length = c.length := hc.length.symm
    have noC : (nf m g s d).lookup ("check" : Str) = none := nf_no _ _ _ _ (by decide +kernel)
    have noF : (nf m g s d).lookup ("free_middle" : Str) = none := nf_no _ _ _ _ (by decide +kernel)
    have noE : (nf m g s d).lookup ("ends" : Str) = none := nf_no _ _ _ _ (by decide +kernel)
    have noI : (nf m g s d).lookup ("used_in" : Str) = none := nf_no _ _ _ _ (by decide +kernel)
    have noO : (nf m g s d).lookup ("used_out" : Str) = none := nf_no _ _ _ _ (by decide +kernel)
    have noX : (nf m g s d).lookup ("exchange" : Str) = none := nf_no _ _ _ _ (by decide +kernel)
    -- self.check(one, other); free = self.free_middle(one, other)
    refine ⟨_, rfl, n, dx, _, rfl, h1, noC, _, rfl, _, rfl, n, d, m, g, s, c, x, y, rfl, N, hlen, hx, hy, hkx, hky, fun H1 S1 => ?_⟩
    refine ⟨_, rfl, n, dx, _, rfl, S1 _ _ h1, noF, _, rfl, _, rfl, n, d, m, g, s, c, x, y, rfl, N.same S1, hlen, fun lf H2 S12 nlf elf => ?_⟩
    have S2 : Same H H2 := S1.trans S12
    -- if free != []
    refine ⟨_, rfl, (by show 0 ≤ sizeLine; decide), fun l0 hl0 => ?_⟩
    have S20 : Same H2 (upd H2 l0 (.lst [])) := same_new hl0
    have S3 : Same H (upd H2 l0 (.lst [])) := S2.trans S20
    refine ⟨dInts (freeM m g c (x / g) (y / g)), dInts [], dp_ints (S20 _ _ elf), dp_ints upd_same, shaped_ints _, shaped_ints _, _, rfl, ?_⟩
    rw [eqv_ints]
    by_cases hfr : freeM m g c (x / g) (y / g) ≠ []
    · -- a free one
      rw [decide_eq_false hfr]
      obtain ⟨k0, r0, ek⟩ : ∃ k0 r0, freeM m g c (x / g) (y / g) = k0 :: r0 := by
        cases e : freeM m g c (x / g) (y / g) with
        | nil => exact (hfr e).elim
        | cons k0 r0 => exact ⟨k0, r0, rfl⟩
      have hk0 := mem_freeM.mp (show k0 ∈ freeM m g c (x / g) (y / g) by rw [ek]; exact List.mem_cons_self)
      rw [ek] at elf
      refine iteT ⟨_, rfl, _, rfl, lf, _, _, _, rfl, rfl, SqL.of (S20 _ _ elf), at_of (j := 0) (v := V.int k0) rfl rfl, (by show 2 ≤ sizeLine; decide), fun q hq => ?_⟩
      have S4 : Same H (upd (upd H2 l0 (.lst [])) q (.tup [.int y, .int k0])) := S3.trans (same_new hq)
      refine ⟨_, rfl, n, CC, dx, _, _, rfl, S4 _ _ h1, T.clC, T.nCal, nf_calls _ _ _ _, _, rfl, d, _, rfl, DPut.k (k := Sum.inl x) (S4 _ _ hd) (small1000 (by omega)), (by show 0 ≤ sizeLine; decide), fun p hp => ?_⟩
      have N4 : NetAt CC _ n d m g s (c ++ [⟨x, y, k0⟩]) := CallsAt.put (e := ⟨x, y, k0⟩) (N.same S4) (S4 _ _ hd) (paired_mono hc fun a kv h => h.ext (extN_of S4)) hkx upd_same
      have hne : ∀ b : Addr, b ≠ d → ∀ o, H b = some o → upd (upd (upd (upd H2 l0 (.lst [])) q (.tup [.int y, .int k0])) d (.dK (putK kvs (Sum.inl x) (.ref q)))) p (.tup []) b = some o := fun b hbd o ho => by
        have e5 : upd (upd (upd H2 l0 (.lst [])) q (.tup [.int y, .int k0])) d (.dK (putK kvs (Sum.inl x) (.ref q))) b = some o := by
          rw [upd_ne hbd]
          exact S4 b o ho
        exact same_new hp _ _ e5
      refine k _ p [] _ (good_snoc G hx hy hk0.1 hkx hky (fun f hf h1 h2 => hk0.2.1 (mem_usedIn.mpr ⟨f, hf, h1, h2⟩)) (fun f hf h1 h2 => hk0.2.2 (mem_usedOut.mpr ⟨f, hf, h1, h2⟩))) ?_ (N4.same (same_new hp)) (fun b o hbd ho => hne b hbd o ho) upd_same fun _ => rfl
      rw [List.map_append] <;> rfl
    · have hfr : freeM m g c (x / g) (y / g) = [] := Classical.byContradiction hfr
      rw [decide_eq_true hfr]
      refine iteF ?_
      -- here, there = self.ends(one, other)
      refine ⟨_, rfl, n, dx, _, rfl, S3 _ _ h1, noE, _, rfl, _, rfl, n, d, m, g, s, c, x, y, rfl, N.same S3, fun p5 hp5 => ?_⟩
      have S5 : Same H (upd (upd H2 l0 (.lst [])) p5 (.tup [.int (x / g), .int (y / g)])) := S3.trans (same_new hp5)
      refine ⟨p5, _, rfl, SqT.of upd_same, rfl, _, _, rfl, _, _, rfl, rfl, ?_⟩
      -- mine
      refine ⟨_, rfl, n, CC, dx, _, _, rfl, S5 _ _ h1, T.clC, T.nMid, nf_middle _ _ _ _, m, rfl, by omega, by omega, fun D6 hD6 => ?_⟩
      refine lc_range (lo := 0) (n := m.toNat) (fun i Hc => Same (upd (upd H2 l0 (.lst [])) p5 (.tup [.int (x / g), .int (y / g)])) Hc ∧ Hc D6 = some (.lst ((((((List.range m.toNat).take i).map fun (j : Nat) => (j : Int)).filter fun k => decide (k ∉ usedIn g c (x / g)))).map V.int))) ⟨same_new hD6, upd_same⟩ ?_ ?_
      · rintro i Hc hi ⟨Sc, hl⟩
        have Sg : Same H Hc := S5.trans Sc
        refine ⟨rfl, _, rfl, _, rfl, n, dx, _, rfl, Sg _ _ h1, noI, _, rfl, n, d, m, g, s, c, x / g, rfl, N.same Sg, hlen, fun ns l H2 hp2 S2 nl e2 => ?_⟩
        have hl2 := S2 _ _ hl
        refine ⟨l, ns.map V.int, rfl, .inl (SqL.of e2), rfl, flat_ints _, _, rfl, ?_⟩
        have hz : (0 : Int) + (i : Int) = (i : Int) := by omega
        have step := range_take hi
        rw [if_pos rfl, inV_ints, hz]
        by_cases hm : (i : Int) ∈ ns
        · rw [decide_eq_true hm]
          refine iteF ⟨Sc.trans S2, ?_⟩
          have hno : ¬ ((i : Int) ∉ usedIn g c (x / g)) := fun z => z (hp2.mem_iff.mp hm)
          rw [hl2, step, List.filter_append, List.filter_cons, if_neg (by simpa using hno), List.filter_nil, List.append_nil]
        · rw [decide_eq_false hm]
          refine iteT ⟨_, rfl, _, hl2, ?_, fun b o h => ?_, ?_⟩
          · rw [List.length_map]
            refine small1000 (Nat.le_trans (List.length_filter_le _ _) ?_)
            rw [List.length_map, List.length_take, List.length_range]
            omega
          · rw [upd_ne (ne_of_none h hD6)]
            exact S2 _ _ (Sc b o h)
          · have hyes : (i : Int) ∉ usedIn g c (x / g) := fun z => hm (hp2.mem_iff.mpr z)
            rw [upd_same, step, List.filter_append, List.filter_cons, if_pos (decide_eq_true hyes), List.filter_nil, List.map_append] <;> rfl
      rintro H6 ⟨S56, l6⟩
      rw [List.take_of_length_le (by rw [List.length_range]; exact Nat.le_refl _)] at l6
      have S6 : Same H H6 := S5.trans S56
      -- theirs
      refine ⟨_, rfl, n, CC, dx, _, _, rfl, S6 _ _ h1, T.clC, T.nMid, nf_middle _ _ _ _, m, rfl, by omega, by omega, fun D7 hD7 => ?_⟩
      refine lc_range (lo := 0) (n := m.toNat) (fun i Hc => Same H6 Hc ∧ Hc D7 = some (.lst ((((((List.range m.toNat).take i).map fun (j : Nat) => (j : Int)).filter fun k => decide (k ∉ usedOut g c (y / g)))).map V.int))) ⟨same_new hD7, upd_same⟩ ?_ ?_
      · rintro i Hc hi ⟨Sc, hl⟩
        have Sg : Same H Hc := S6.trans Sc
        refine ⟨rfl, _, rfl, _, rfl, n, dx, _, rfl, Sg _ _ h1, noO, _, rfl, n, d, m, g, s, c, y / g, rfl, N.same Sg, hlen, fun ns l H2 hp2 S2 nl e2 => ?_⟩
        have hl2 := S2 _ _ hl
        refine ⟨l, ns.map V.int, rfl, .inl (SqL.of e2), rfl, flat_ints _, _, rfl, ?_⟩
        have hz : (0 : Int) + (i : Int) = (i : Int) := by omega
        have step := range_take hi
        rw [if_pos rfl, inV_ints, hz]
        by_cases hm : (i : Int) ∈ ns
        · rw [decide_eq_true hm]
          refine iteF ⟨Sc.trans S2, ?_⟩
          have hno : ¬ ((i : Int) ∉ usedOut g c (y / g)) := fun z => z (hp2.mem_iff.mp hm)
          rw [hl2, step, List.filter_append, List.filter_cons, if_neg (by simpa using hno), List.filter_nil, List.append_nil]
        · rw [decide_eq_false hm]
          refine iteT ⟨_, rfl, _, hl2, ?_, fun b o h => ?_, ?_⟩
          · rw [List.length_map]
            refine small1000 (Nat.le_trans (List.length_filter_le _ _) ?_)
            rw [List.length_map, List.length_take, List.length_range]
            omega
          · rw [upd_ne (ne_of_none h hD7)]
            exact S2 _ _ (Sc b o h)
          · have hyes : (i : Int) ∉ usedOut g c (y / g) := fun z => hm (hp2.mem_iff.mpr z)
            rw [upd_same, step, List.filter_append, List.filter_cons, if_pos (decide_eq_true hyes), List.filter_nil, List.map_append] <;> rfl
      rintro H7 ⟨S67, l7⟩
      rw [List.take_of_length_le (by rw [List.length_range]; exact Nat.le_refl _)] at l7
      have S7 : Same H H7 := S6.trans S67
      have l6' := S67 _ _ l6
      -- if mine == [] or theirs == []
      obtain ⟨a, ha0, ham, hau⟩ := free_in (by omega) hgm G hkx
      obtain ⟨b, hb0, hbm, hbu⟩ := free_out (by omega) hgm G hky
      have em : freeL m (usedIn g c (x / g)) ≠ [] := fun z => by
        have := mem_freeL.mpr ⟨⟨ha0, ham⟩, hau⟩
        rw [z] at this
        cases this
      have et : freeL m (usedOut g c (y / g)) ≠ [] := fun z => by
        have := mem_freeL.mpr ⟨⟨hb0, hbm⟩, hbu⟩
        rw [z] at this
        cases this
      refine ⟨_, rfl, (by show 0 ≤ sizeLine; decide), fun l8 hl8 => ?_⟩
      have S78 : Same H7 (upd H7 l8 (.lst [])) := same_new hl8
      refine ⟨dInts (freeL m (usedIn g c (x / g))), dInts [], dp_ints (S78 _ _ l6'), dp_ints upd_same, shaped_ints _, shaped_ints _, _, rfl, ?_⟩
      rw [eqv_ints, decide_eq_false em]
      refine iteF ⟨_, rfl, (by show 0 ≤ sizeLine; decide), fun l9 hl9 => ?_⟩
      have S89 : Same (upd H7 l8 (.lst [])) (upd (upd H7 l8 (.lst [])) l9 (.lst [])) := same_new hl9
      refine ⟨dInts (freeL m (usedOut g c (y / g))), dInts [], dp_ints (S89 _ _ (S78 _ _ l7)), dp_ints upd_same, shaped_ints _, shaped_ints _, _, rfl, ?_⟩
      rw [eqv_ints, decide_eq_false et]
      refine iteF ?_
      have S9 : Same H (upd (upd H7 l8 (.lst [])) l9 (.lst [])) := (S7.trans S78).trans S89
      have l6'' := S89 _ _ (S78 _ _ l6')
      have l7'' := S89 _ _ (S78 _ _ l7)
      clear a ha0 ham hau b hb0 hbm hbu
      obtain ⟨a, ra, ea⟩ : ∃ a ra, freeL m (usedIn g c (x / g)) = a :: ra := by
        cases e : freeL m (usedIn g c (x / g)) with
        | nil => exact (em e).elim
        | cons k0 r0 => exact ⟨k0, r0, rfl⟩
      obtain ⟨b, rb, eb⟩ : ∃ b rb, freeL m (usedOut g c (y / g)) = b :: rb := by
        cases e : freeL m (usedOut g c (y / g)) with
        | nil => exact (et e).elim
        | cons k0 r0 => exact ⟨k0, r0, rfl⟩
      have hma := mem_freeL.mp (show a ∈ freeL m (usedIn g c (x / g)) by rw [ea]; exact List.mem_cons_self)
      have hmb := mem_freeL.mp (show b ∈ freeL m (usedOut g c (y / g)) by rw [eb]; exact List.mem_cons_self)
      have l6a : upd (upd H7 l8 (.lst [])) l9 (.lst []) D6 = some (.lst ((a :: ra).map V.int)) := by
        rw [← ea]
        exact l6''
      have l7b : upd (upd H7 l8 (.lst [])) l9 (.lst []) D7 = some (.lst ((b :: rb).map V.int)) := by
        rw [← eb]
        exact l7''
      have hab : a ≠ b := fun z => by
        have : a ∈ freeM m g c (x / g) (y / g) := mem_freeM.mpr ⟨hma.1, hma.2, by rw [z]; exact hmb.2⟩
        rw [hfr] at this
        cases this
      have hbf : ∀ e ∈ c, e.goal / g = y / g → e.mid ≠ b := fun e he h1 h2 => hmb.2 (mem_usedOut.mpr ⟨e, he, h1, h2⟩)
      -- moved = self.exchange(there, mine[0], theirs[0])
      refine ⟨_, rfl, n, dx, _, rfl, S9 _ _ h1, noX, _, rfl, _, rfl, D6, _, _, _, rfl, rfl, SqL.of l6a, at_of (j := 0) (v := V.int a) rfl rfl, _, rfl, D7, _, _, _, rfl, rfl, SqL.of l7b, at_of (j := 0) (v := V.int b) rfl rfl,
        n, d, m, g, s, c, y / g, a, b, rfl, N.same S9, G, hlen, hab, hbf, fun es p xs H10 W hend N10 k10 hp10 e10 => ?_⟩
      have ndD6 : D6 ≠ d := ne_of l6a (S9 _ _ hd) (by intro z; cases z)
      have l6b := k10 _ _ ndD6 l6a
      -- self.calls[one] = (other, mine[0])
      refine ⟨_, rfl, _, rfl, D6, _, _, _, rfl, rfl, SqL.of l6b, at_of (j := 0) (v := V.int a) rfl rfl, (by show 2 ≤ sizeLine; decide), fun q hq => ?_⟩
      obtain ⟨⟨dx10, h10⟩, ⟨kv10, hd10, hc10⟩, _⟩ := id N10
      have Sq : Same H10 (upd H10 q (.tup [.int y, .int a])) := same_new hq
      have hk10 : kv10.length = c.length := by rw [← hc10.length, List.length_map]
      have nx10 : ∀ f ∈ c.map (sw1 a b (es.map Call.one)), f.one ≠ x := fun f hf => by
        obtain ⟨e, he, rfl⟩ := List.mem_map.mp hf
        rw [sw1_one]
        exact hkx e he
      have ny10 : ∀ f ∈ c.map (sw1 a b (es.map Call.one)), f.goal ≠ y := fun f hf => by
        obtain ⟨e, he, rfl⟩ := List.mem_map.mp hf
        rw [sw1_goal]
        exact hky e he
      refine ⟨_, rfl, n, CC, dx10, _, _, rfl, Sq _ _ h10, T.clC, T.nCal, nf_calls _ _ _ _, _, rfl, d, _, rfl, DPut.k (k := Sum.inl x) (Sq _ _ hd10) (small1000 (by omega)), _, rfl, ?_⟩
      have G10 := good_sw G W hab hma.1 hmb.1 hbf hend
      have N11 := CallsAt.put (e := ⟨x, y, a⟩) (N10.same Sq) (Sq _ _ hd10) (paired_mono hc10 fun a' kv h => h.ext (extN_of Sq)) nx10 upd_same
      have npd : p ≠ d := ne_of e10 hd10 (by intro z; cases z)
      refine k _ p xs _ (good_snoc G10 hx hy hma.1 nx10 ny10 (sw_free_in G W hab fun e he h1 h2 => hma.2 (mem_usedIn.mpr ⟨e, he, h1, h2⟩)) (sw_free_out G W hab hbf hend)) ?_ N11 (fun b' o hbd ho => ?_) (by rw [upd_ne npd]; exact Sq _ _ e10) fun hbig => ?_
      · rw [List.map_append, map_pg_sw1] <;> rfl
      · rw [upd_ne hbd]
        exact Sq _ _ (k10 _ _ hbd (S9 _ _ ho))
      · obtain ⟨k0, h0, h1, h2, h3⟩ := free_both (by omega) hbig G hkx hky
        have : k0 ∈ freeM m g c (x / g) (y / g) := mem_freeM.mpr ⟨⟨h0, h1⟩, h2, h3⟩
        rw [hfr] at this
        cases this
end
end Clx
/-! ## K9 -/
set_option Elab.async false
set_option linter.all false
set_option maxRecDepth 100000
set_option maxHeartbeats 4000000
set_option pp.maxSteps 1200
set_option pp.deepTerms false
/-! ### Exchange: made, spot, connect, part -/
namespace Clx
open PySem PySem.Spec PyProof.Rows L2
/-- what the top has left of an own error -/
structure ExcT (K : PySem.W.Frag) (mg : Str → Option Value) (x : Str) (C : Addr) : Prop where
  gC : mg x = some (.ref C)
  xC : PySem.W.excIn K C He.veBase "ValueError.__new__" = true
  kC : PySem.W.keepIn K (.ref C) = true
  bC : PySem.W.subIn K (.ref C) (.type "BaseException") = some true
  tC : PySem.W.typeIn K (.ref C) = some (.type "type")
theorem mul_bd {a s l : Int} (h1 : 0 ≤ a) (h2 : a < l) (hs : 1 ≤ s ∧ s ≤ 3) (b : Int) (h3 : 0 ≤ b) (h4 : b < s) : 0 ≤ a * s + b ∧ a * s + b < s * l := by
  have : s = 1 ∨ s = 2 ∨ s = 3 := by omega
  rcases this with rfl | rfl | rfl <;> omega
section
variable {P : Program} {w : World} {K : PySem.W.Frag} {mg : Str → Option Value} {base : Heap} {CC CE BS BG f fC fP fS fE : Addr} {fd fdC fdP fdS fdE : FuncData}
/-! #### Exchange.__init__ -/
def spXInit (CE CC BS : Addr) : Sp := fun vs H Q E => ∃ (p dx : Addr) (l s i : Int), vs = [.ref p, .int l, .int s, .int i] ∧ H p = some (.ins CE dx []) ∧
  (((1 ≤ s ∧ s ≤ 3 ∧ 1 ≤ l ∧ l ≤ 3 ∧ 1 ≤ i ∧ i ≤ 4) ∧ ∀ (n d : Addr) (H' : Hp), H n = none → H d = none → ExAt CE CC H' p n d l s i [] → (∀ b o, H b = some o → b ≠ p → H' b = some o) → Q .non H') ∨ ((1 ≤ l ∧ s < 1) ∧ E (.ref BS) none H))
theorem scXInit : FnScope ["self", "lines", "slots", "inner"] ["self", "lines", "slots", "inner"] (defScope sXInit) := ⟨rfl, rfl, rfl, by decide +kernel, rfl, by decide +kernel, by decide +kernel⟩
theorem ok_xinit (F : FnS K "__init__" "Exchange.__init__" sXInit f fd) (T : Txt K mg CC CE) (TS : ExcT K mg "BadSize" BS) (FC : FnS K "__init__" "Clos.__init__" sCInit fC fdC) (MC : Mk K CC fC) (gC : mg "Clos" = some (.ref CC)) :
    FnOk P w K mg base (L2.CX P w) 3 f fd ["self", "lines", "slots", "inner"] (spXInit CE CC BS) := by
  have GC : FnOk P w K mg base CX0 1 fC fdC ["self", "middle", "gates", "switches"] (spCInit CC) := ok_cinit FC T
  have bC : Binds K fdC ["self", "middle", "gates", "switches"] [] := FC.bindsN fun _ _ _ _ _ _ us hl => match us, hl with | [_, _, _, _], _ => rfl
  refine F.ok scXInit (fun vs H Q E h => ?_) (fun cdv A outer s0 H vs Q E hr h => ?_)
  · obtain ⟨p, dx, l, s, i, rfl, _⟩ := h
    rfl
  · obtain ⟨p, dx, l, s, i, rfl, hp, k⟩ := h
    refine ⟨_, pss_cons (ps_if (PW.pt (pw_or (pt_cmpR op_lt (pv 1) pe_int (nomark _)) (pw_or (pt_cmpR op_lt (pv 2) pe_int (nomark _)) (pw_or1 (pt_cmpR op_lt (pv 3) pe_int (nomark _))))))
        (pss_one (ps_raise rfl (takes_of rfl rfl rfl rfl) (pmk_own PySem.F.excBase_ValueError TS.xC TS.gC TS.kC (raises_own TS.bC TS.tC) rfl))) pss_nil)
      (PSs.nox (pss_cons (ps_fld (pv 0) (pv 1) rfl) (pss_cons (ps_fld (pv 0) (pv 2) rfl) (pss_cons (ps_fld (pv 0) (pv 3) rfl)
        (pss_one (ps_fld (pv 0) (pe_make MC GC hr rfl gC bC .nil pass0 (pa_cons (pv 3) (pa_cons (pv 2) (pa_cons (pv 1) pa_nil)))) rfl)))))), ?_⟩
    refine ⟨_, rfl, _, _, rfl, rfl, _, rfl, ?_⟩
    rcases k with ⟨hb, k⟩ | ⟨hb, k⟩
    · have n1 : decide (l < 1) = false := decide_eq_false (by omega)
      have n2 : decide (s < 1) = false := decide_eq_false (by omega)
      have n3 : decide (i < 1) = false := decide_eq_false (by omega)
      rw [n1]
      refine iteF ⟨_, rfl, _, _, rfl, rfl, _, rfl, ?_⟩
      rw [n2]
      refine iteF ⟨_, rfl, _, _, rfl, rfl, _, rfl, ?_⟩
      rw [n3]
      refine iteF ?_
      refine ⟨_, rfl, _, rfl, p, CE, dx, _, rfl, hp, T.clE, T.nLin, (by show 0 < 1000; decide), ?_⟩
      refine ⟨_, rfl, _, rfl, p, CE, dx, _, rfl, upd_same, T.clE, T.nSlo, (by show 1 < 1000; decide), ?_⟩
      refine ⟨_, rfl, _, rfl, p, CE, dx, _, rfl, upd_same, T.clE, T.nInn, (by show 2 < 1000; decide), ?_⟩
      rw [upd_upd, upd_upd]
      refine ⟨_, rfl, _, rfl, _, rfl, fun x dx2 hx hdx hne => ⟨x, dx2, i, s, l, rfl, upd_same, ⟨by omega, by omega, by omega, by omega, by omega, by omega⟩, fun d H' hd N kp => ⟨rfl, ?_⟩⟩⟩
      have hpx : p ≠ x := ne_of_none upd_same hx
      have hpdx : p ≠ dx2 := ne_of_none upd_same hdx
      have hp2 : ∀ {o : HO}, upd (upd (upd H p o) dx2 (.own x)) x (.ins CC dx2 []) p = some o := fun {o} => by rw [upd_ne hpx, upd_ne hpdx, upd_same]
      have hdp : d ≠ p := fun z => by
        rw [z, hp2] at hd
        cases hd
      have hxH : H x = none := by
        rw [upd_ne hpx.symm] at hx
        exact hx
      have hdH : H d = none := by
        by_cases q1 : d = x
        · rw [q1]
          exact hxH
        · rw [upd_ne q1] at hd
          by_cases q2 : d = dx2
          · rw [q2, upd_same] at hd
            cases hd
          · rw [upd_ne q2, upd_ne hdp] at hd
            exact hd
      refine ⟨_, rfl, p, CE, dx, _, rfl, kp _ _ hp2 hpx, T.clE, T.nNet, (by show 3 < 1000; decide), ?_⟩
      obtain ⟨⟨dx3, o1⟩, ⟨kv, o2, o3⟩, o4⟩ := N
      cases o3
      refine k x d _ hxH hdH ⟨⟨dx, upd_same⟩, ⟨dx3, by rw [upd_ne hpx.symm]; exact o1⟩, ⟨[], by rw [upd_ne hdp]; exact o2, .nil⟩, o4⟩ fun b o e hne2 => ?_
      rw [upd_ne hne2]
      have hbx : b ≠ x := ne_of_none e hxH
      refine kp b o ?_ hbx
      have hbd : b ≠ dx2 := fun z => by
        rw [← z, upd_ne hne2, e] at hdx
        cases hdx
      rw [upd_ne hbx, upd_ne hbd, upd_ne hne2]
      exact e
    · have n1 : decide (l < 1) = false := decide_eq_false (by omega)
      have n2 : decide (s < 1) = true := decide_eq_true (by omega)
      rw [n1]
      refine iteF ⟨_, rfl, _, _, rfl, rfl, _, rfl, ?_⟩
      rw [n2]
      exact iteT (iteT k)
/-! #### Exchange.spot -/
def spSpot (CE CC BG : Addr) : Sp := fun vs H Q E => ∃ (x n d : Addr) (l s i : Int) (c : List Call) (a b : Int), vs = [.ref x, .int a, .int b] ∧ ExAt CE CC H x n d l s i c ∧
  (((0 ≤ a ∧ a < l) ∧ (0 ≤ b ∧ b < s) ∧ Q (.int (a * s + b)) H) ∨ ((0 ≤ a ∧ l ≤ a) ∧ E (.ref BG) none H))
theorem scSpot : FnScope ["self", "line", "slot"] ["self", "line", "slot"] (defScope sSpot) := ⟨rfl, rfl, rfl, by decide +kernel, rfl, by decide +kernel, by decide +kernel⟩
theorem ok_spot (F : FnS K "spot" "Exchange.spot" sSpot f fd) (T : Txt K mg CC CE) (TG : ExcT K mg "BadGate" BG) : FnOk P w K mg base (L2.CX P w) 1 f fd ["self", "line", "slot"] (spSpot CE CC BG) := by
  refine F.ok scSpot (fun vs H Q E h => ?_) (fun cdv A outer s0 H vs Q E hr h => ?_)
  · obtain ⟨x, n, d, l, s, i, c, a, b, rfl, _⟩ := h
    rfl
  · obtain ⟨x, n, d, l, s, i, c, a, b, rfl, X, k⟩ := h
    obtain ⟨⟨dx, h1⟩, N⟩ := id X
    have hb := N.bd
    refine ⟨_, pss_cons (ps_if (PW.pt (pw_or (pt_not (pt_chain op_le op_lt pe_int (pv 1) (pe_fld (pv 0) rfl))) (pw_or1 (pt_not (pt_chain op_le op_lt pe_int (pv 2) (pe_fld (pv 0) rfl))))))
        (pss_one (ps_raise rfl (takes_of rfl rfl rfl rfl) (pmk_own PySem.F.excBase_ValueError TG.xC TG.gC TG.kC (raises_own TG.bC TG.tC) rfl))) pss_nil)
      (pss_one (ps_ret (pe_op op_add (pe_op op_mul (pv 1) (pe_fld (pv 0) rfl)) (pv 2)))), ?_⟩
    refine ⟨_, rfl, _, _, rfl, rfl, _, rfl, ?_⟩
    rcases k with ⟨ha, hbb, k⟩ | ⟨ha, k⟩
    · rw [decide_eq_true ha.1]
      refine iteT ⟨_, rfl, x, CE, dx, _, _, rfl, h1, T.clE, T.nLin, xf_lines _ _ _ _, _, _, rfl, rfl, _, rfl, ?_⟩
      rw [decide_eq_true ha.2]
      refine iteF ⟨_, rfl, _, _, rfl, rfl, _, rfl, ?_⟩
      rw [decide_eq_true hbb.1]
      refine iteT ⟨_, rfl, x, CE, dx, _, _, rfl, h1, T.clE, T.nSlo, xf_slots _ _ _ _, _, _, rfl, rfl, _, rfl, ?_⟩
      rw [decide_eq_true hbb.2]
      refine iteF ?_
      exact ⟨_, rfl, _, rfl, x, CE, dx, _, _, rfl, h1, T.clE, T.nSlo, xf_slots _ _ _ _, _, _, rfl, rfl, .inl ⟨by omega, by omega⟩, _, rfl, _, _, rfl, rfl, k⟩
    · rw [decide_eq_true ha.1]
      refine iteT ⟨_, rfl, x, CE, dx, _, _, rfl, h1, T.clE, T.nLin, xf_lines _ _ _ _, _, _, rfl, rfl, _, rfl, ?_⟩
      rw [decide_eq_false (by omega)]
      exact iteT (iteT k)
/-! #### Exchange.connect, Exchange.part -/
def spConnect (CE CC : Addr) : Sp := fun vs H Q _ => ∃ (x n d : Addr) (l s i : Int) (c : List Call) (a b a' b' : Int), vs = [.ref x, .int a, .int b, .int a', .int b'] ∧ ExAt CE CC H x n d l s i c ∧ Good i s l c ∧ s ≤ i ∧ (0 ≤ a ∧ a < l) ∧ (0 ≤ b ∧ b < s) ∧ (0 ≤ a' ∧ a' < l) ∧ (0 ≤ b' ∧ b' < s) ∧
  (∀ e ∈ c, e.one ≠ a * s + b) ∧ (∀ e ∈ c, e.goal ≠ a' * s + b') ∧
  ∀ (c' : List Call) (k : Int) (H' : Hp), Good i s l c' → c'.map Call.pg = c.map Call.pg ++ [(a * s + b, a' * s + b')] → ExAt CE CC H' x n d l s i c' → (∀ b o, b ≠ d → H b = some o → H' b = some o) → 0 ≤ k → (2 * s - 1 ≤ i → k = 0) → Q (.int k) H'
theorem scConnect : FnScope ["self", "line", "slot", "other", "goal"] ["self", "line", "slot", "other", "goal"] (defScope sConnect) := ⟨rfl, rfl, rfl, by decide +kernel, rfl, by decide +kernel, by decide +kernel⟩
theorem ok_connect (F : FnS K "connect" "Exchange.connect" sConnect f fd) (T : Txt K mg CC CE) (TG : ExcT K mg "BadGate" BG) (FS : FnS K "spot" "Exchange.spot" sSpot fS fdS) (mS : Meth K CE "spot" fS)
    (GP : FnOk P w K mg base CX0 4 fP fdP ["self", "one", "other"] (spPutM CC)) (bP : Binds K fdP ["self", "one", "other"] []) (mP : Meth K CC "put_moving" fP) :
    FnOk P w K mg base CX0 5 f fd ["self", "line", "slot", "other", "goal"] (spConnect CE CC) := by
  have GS : FnOk P w K mg base (L2.CX P w) 1 fS fdS ["self", "line", "slot"] (spSpot CE CC BG) := ok_spot FS T TG
  have bS : Binds K fdS ["self", "line", "slot"] [] := FS.bindsN fun _ _ _ _ _ _ us hl => match us, hl with | [_, _, _], _ => rfl
  refine F.ok scConnect (fun vs H Q E h => ?_) (fun cdv A outer s0 H vs Q E hr h => ?_)
  · obtain ⟨x, n, d, l, s, i, c, a, b, a', b', rfl, _⟩ := h
    rfl
  · obtain ⟨x, n, d, l, s, i, c, a, b, a', b', rfl, X, G, hsi, ha, hb, ha', hb', hk, hg, k⟩ := h
    obtain ⟨⟨dx, h1⟩, N⟩ := id X
    have hbd := N.bd
    have hr1 : Room 1 _ := hr.mono (by decide)
    refine ⟨_, PSs.nox (pss_one (ps_ret (pe_callB call_len_seq (by rfl) T.gLen PySem.boot_len (pa_cons (pe_meth (pe_fld (pv 0) rfl) T.clC mP GP hr bP .nil pass0
      (pa_cons (pe_meth (pv 0) T.clE mS GS hr1 bS .nil passL (pa_cons (pv 1) (pa_cons (pv 2) pa_nil))) (pa_cons (pe_meth (pv 0) T.clE mS GS hr1 bS .nil passL (pa_cons (pv 3) (pa_cons (pv 4) pa_nil))) pa_nil))) pa_nil)))), ?_⟩
    have noS : (xf l s i n).lookup ("spot" : Str) = none := xf_no _ _ _ _ (by decide +kernel)
    have noP : (nf i s l d).lookup ("put_moving" : Str) = none := nf_no _ _ _ _ (by decide +kernel)
    obtain ⟨dn, hn⟩ := N.ob
    have hxd : x ≠ d := by
      obtain ⟨kv, e, _⟩ := N.cs
      exact ne_of h1 e (by intro z; cases z)
    refine ⟨_, rfl, x, CE, dx, _, _, rfl, h1, T.clE, T.nNet, xf_net _ _ _ _, n, dn, _, rfl, hn, noP, _, rfl, x, dx, _, rfl, h1, noS, _, rfl, _, rfl, x, n, d, l, s, i, c, a, b, rfl, X, .inl ⟨ha, hb, ?_⟩⟩
    refine ⟨_, rfl, x, dx, _, rfl, h1, noS, _, rfl, _, rfl, x, n, d, l, s, i, c, a', b', rfl, X, .inl ⟨ha', hb', ?_⟩⟩
    have q1 := mul_bd ha.1 ha.2 ⟨hbd.1, hbd.2.1⟩ b hb.1 hb.2
    have q2 := mul_bd ha'.1 ha'.2 ⟨hbd.1, hbd.2.1⟩ b' hb'.1 hb'.2
    refine ⟨n, d, i, s, l, c, _, _, rfl, N, G, hsi, q1, q2, hk, hg, fun c' p xs H' G' hpg N' kp hp hz => ⟨p, xs, rfl, .inr (SqT.of hp), ?_⟩⟩
    refine k c' _ H' G' hpg ⟨⟨dx, kp _ _ hxd h1⟩, N'⟩ (fun b o hb ho => kp b o hb ho) (by omega) fun hbig => ?_
    rw [hz hbig] <;> rfl
def spPart (CE CC : Addr) : Sp := fun vs H Q _ => ∃ (x n d : Addr) (l s i : Int) (c : List Call) (a b : Int), vs = [.ref x, .int a, .int b] ∧ ExAt CE CC H x n d l s i c ∧ Good i s l c ∧ (0 ≤ a ∧ a < l) ∧ (0 ≤ b ∧ b < s) ∧ (∃ e ∈ c, e.one = a * s + b) ∧
  ∀ H', ExAt CE CC H' x n d l s i (c.filter fun e => decide (e.one ≠ a * s + b)) → (∀ b o, b ≠ d → H b = some o → H' b = some o) → Q .non H'
theorem scPart : FnScope ["self", "line", "slot"] ["self", "line", "slot"] (defScope sPart) := ⟨rfl, rfl, rfl, by decide +kernel, rfl, by decide +kernel, by decide +kernel⟩
theorem ok_part (F : FnS K "part" "Exchange.part" sPart f fd) (T : Txt K mg CC CE) (TG : ExcT K mg "BadGate" BG) (FS : FnS K "spot" "Exchange.spot" sSpot fS fdS) (mS : Meth K CE "spot" fS)
    (FE : FnS K "end" "Clos.end" sEnd fE fdE) (mE : Meth K CC "end" fE) : FnOk P w K mg base CX0 2 f fd ["self", "line", "slot"] (spPart CE CC) := by
  have GS : FnOk P w K mg base (L2.CX P w) 1 fS fdS ["self", "line", "slot"] (spSpot CE CC BG) := ok_spot FS T TG
  have bS : Binds K fdS ["self", "line", "slot"] [] := FS.bindsN fun _ _ _ _ _ _ us hl => match us, hl with | [_, _, _], _ => rfl
  have GE : FnOk P w K mg base CX0 1 fE fdE ["self", "one"] (spEnd CC) := ok_end FE T
  have bE : Binds K fdE ["self", "one"] [] := FE.bindsN fun _ _ _ _ _ _ us hl => match us, hl with | [_, _], _ => rfl
  refine F.ok scPart (fun vs H Q E h => ?_) (fun cdv A outer s0 H vs Q E hr h => ?_)
  · obtain ⟨x, n, d, l, s, i, c, a, b, rfl, _⟩ := h
    rfl
  · obtain ⟨x, n, d, l, s, i, c, a, b, rfl, X, G, ha, hb, hk, k⟩ := h
    obtain ⟨⟨dx, h1⟩, N⟩ := id X
    refine ⟨_, PSs.nox (pss_one (ps_expr (pe_meth (pe_fld (pv 0) rfl) T.clC mE GE hr bE .nil pass0 (pa_cons (pe_meth (pv 0) T.clE mS GS hr bS .nil passL (pa_cons (pv 1) (pa_cons (pv 2) pa_nil))) pa_nil)))), ?_⟩
    have noS : (xf l s i n).lookup ("spot" : Str) = none := xf_no _ _ _ _ (by decide +kernel)
    have noE : (nf i s l d).lookup ("end" : Str) = none := nf_no _ _ _ _ (by decide +kernel)
    obtain ⟨dn, hn⟩ := N.ob
    have hxd : x ≠ d := by
      obtain ⟨kv, e, _⟩ := N.cs
      exact ne_of h1 e (by intro z; cases z)
    refine ⟨_, rfl, x, CE, dx, _, _, rfl, h1, T.clE, T.nNet, xf_net _ _ _ _, n, dn, _, rfl, hn, noE, _, rfl, x, dx, _, rfl, h1, noS, _, rfl, _, rfl, x, n, d, l, s, i, c, a, b, rfl, X, .inl ⟨ha, hb, ?_⟩⟩
    exact ⟨n, d, i, s, l, c, _, rfl, N, G.key, hk, fun H' N' kp => k H' ⟨⟨dx, kp _ _ hxd h1⟩, N'⟩ kp⟩
end
end Clx
/-! ## K10 -/
set_option Elab.async false
set_option linter.all false
set_option maxRecDepth 100000
set_option maxHeartbeats 4000000
set_option pp.maxSteps 1200
set_option pp.deepTerms false
/-! ### reads, joins, writes -/
namespace Clx
open PySem PySem.Spec PyProof.Rows L2
/-- a list of n places, filled by the calls that are meant -/
structure Filled (sel : Call → Prop) (idx : Call → Nat) (f : Call → Int) (es : List Call) (n : Nat) (xs : List V) : Prop where
  len : xs.length = n
  yes : ∀ e ∈ es, sel e → xs[idx e]? = some (.int (f e))
  no : ∀ k, k < n → (∀ e ∈ es, sel e → idx e ≠ k) → xs[k]? = some .non
section
variable {sel : Call → Prop} {idx : Call → Nat} {f : Call → Int} {es : List Call} {n : Nat} {xs : List V} {e : Call}
theorem Filled.nil : Filled sel idx f [] n (List.replicate n .non) := ⟨List.length_replicate, fun _ h => (by cases h), fun k hk _ => by
  rw [List.getElem?_replicate, if_pos hk]⟩
theorem Filled.skip (F : Filled sel idx f es n xs) (h : ¬ sel e) : Filled sel idx f (es ++ [e]) n xs := ⟨F.len, fun x hx hs => by
  rcases List.mem_append.mp hx with q | q
  · exact F.yes x q hs
  · rw [List.mem_singleton.mp q] at hs
    exact (h hs).elim, fun k hk hn => F.no k hk fun x hx => hn x (List.mem_append_left _ hx)⟩
theorem Filled.put (F : Filled sel idx f es n xs) (h : sel e) (hi : idx e < n) (hu : ∀ x ∈ es, sel x → idx x ≠ idx e) : Filled sel idx f (es ++ [e]) n (xs.set (idx e) (.int (f e))) := by
  have hl : idx e < xs.length := by rw [F.len]; exact hi
  refine ⟨by rw [List.length_set]; exact F.len, fun x hx hs => ?_, fun k hk hn => ?_⟩
  · rcases List.mem_append.mp hx with q | q
    · rw [List.getElem?_set_ne (fun z => hu x q hs z.symm)]
      exact F.yes x q hs
    · rw [List.mem_singleton.mp q, List.getElem?_set_self hl]
  · rw [List.getElem?_set_ne (hn e (List.mem_append_right _ List.mem_cons_self) h)]
    exact F.no k hk fun x hx => hn x (List.mem_append_left _ hx)
theorem Filled.perm {c : List Call} (F : Filled sel idx f es n xs) (hp : es.Perm c) : Filled sel idx f c n xs := ⟨F.len, fun x hx => F.yes x (hp.mem_iff.mpr hx), fun k hk hn => F.no k hk fun x hx => hn x (hp.mem_iff.mp hx)⟩
end
theorem rep_none (k : Nat) : (List.replicate k [V.non]).flatten = List.replicate k V.non := by
  induction k with
  | zero => rfl
  | succ k ih => rw [List.replicate_succ, List.replicate_succ, List.flatten_cons, ih] <;> rfl
theorem ixN_nat {z : Int} {n : Nat} (h0 : 0 ≤ z) (h : z.toNat < n) : ixN n z = some z.toNat := by
  unfold ixN
  rw [if_pos h0, if_pos (by omega)]
/-- what the three defs give back -/
def GivesF (sel : Call → Prop) (idx : Call → Nat) (f : Call → Int) (c : List Call) (n : Nat) (H : Hp) (Q : VK) : Prop :=
  ∀ (xs : List V) (p : Addr) (H' : Hp), Filled sel idx f c n xs → Same H H' → H p = none → H' p = some (.tup xs) → Q (.ref p) H'
section
variable {P : Program} {w : World} {K : PySem.W.Frag} {mg : Str → Option Value} {base : Heap} {CC CE f fS : Addr} {fd fdS : FuncData}
def spReads (CE CC : Addr) : Sp := fun vs H Q _ => ∃ (x n d : Addr) (l s i : Int) (c : List Call) (a : Int), vs = [.ref x, .int a] ∧ ExAt CE CC H x n d l s i c ∧ Good i s l c ∧
  GivesF (fun e => e.one / s = a) (fun e => e.mid.toNat) (fun e => e.one % s) c i.toNat H Q
theorem scReads : FnScope ["self", "line", "found", "one", "goal", "number"] ["self", "line"] (defScope sReads) := ⟨rfl, rfl, rfl, by decide +kernel, rfl, by decide +kernel, by decide +kernel⟩
theorem ok_reads (F : FnS K "reads" "Exchange.reads" sReads f fd) (T : Txt K mg CC CE) (FS : FnS K "shown" "Clos.shown" sShown fS fdS) (mS : Meth K CC "shown" fS) : FnOk P w K mg base CX0 2 f fd ["self", "line"] (spReads CE CC) := by
  have GS : FnOk P w K mg base CX0 1 fS fdS ["self"] (spShown CC) := ok_shown FS T
  have bS : Binds K fdS ["self"] [] := FS.bindsN fun _ _ _ _ _ _ us hl => match us, hl with | [_], _ => rfl
  refine F.ok scReads (fun vs H Q E h => ?_) (fun cdv A outer s0 H vs Q E hr h => ?_)
  · obtain ⟨x, n, d, l, s, i, c, a, rfl, _⟩ := h
    rfl
  · obtain ⟨x, n, d, l, s, i, c, a, rfl, X, G, k⟩ := h
    obtain ⟨⟨dx, h1⟩, N⟩ := id X
    have hb := N.bd
    have hlen : c.length ≤ 9 := good_len G (mul_le9 ⟨hb.1, hb.2.1, hb.2.2.1, hb.2.2.2.1⟩)
    obtain ⟨dn, hn⟩ := N.ob
    refine ⟨_, PSs.nox (pss_cons (ps_set (i := 2) scReads.nd rfl (Or.inl rfl) (pe_op op_rep (pe_lst (pa_cons pe_non pa_nil)) (pe_fld (pv 0) rfl)))
      (pss_cons (ps_for PassesOwn.never rfl (pi_tup (pe_meth0 (pe_fld (pv 0) rfl) T.clC mS GS hr bS .nil pass0)) (pg_tup rfl (pgs_cons (pg_name (i := 3) scReads.nd rfl (Or.inl rfl)) (pgs_cons (pg_name (i := 4) scReads.nd rfl (Or.inl rfl)) (pgs_cons (pg_name (i := 5) scReads.nd rfl (Or.inl rfl)) pgs_nil))))
        (pss_one (ps_if (pt_cmpR op_eq (pe_op op_fdiv (pv 3) (pe_fld (pv 0) rfl)) (pv 1) (nomark _))
          (pss_one (ps_asg (pe_op op_mod (pv 3) (pe_fld (pv 0) rfl)) (pg_sub (pv 2) (pv 5) set_list))) pss_nil)))
      (pss_one (ps_ret (pe_callTy call_tuple_of (by rfl) T.gTuple (by decide +kernel) (pa_cons (pv 2) pa_nil)))))), ?_⟩
    have noS : (nf i s l d).lookup ("shown" : Str) = none := nf_no _ _ _ _ (by decide +kernel)
    -- found = [None] * self.inner
    refine ⟨(by show 1 ≤ sizeLine; decide), fun l1 hl1 => ?_⟩
    have S1 : Same H (upd H l1 (.lst [.non])) := same_new hl1
    refine ⟨_, rfl, x, CE, dx, _, _, rfl, S1 _ _ h1, T.clE, T.nInn, xf_inner _ _ _ _, l1, i, _, rfl, rfl, upd_same, by omega, by omega, (by show 1 * i.toNat ≤ sizeLine; exact Nat.le_of_lt (small1000 (by omega))), fun fo hfo => ?_⟩
    rw [rep_none]
    have S2 : Same H (upd (upd H l1 (.lst [.non])) fo (.lst (List.replicate i.toNat .non))) := S1.trans (same_new hfo)
    have hfoH : H fo = none := S1.free hfo
    -- for one, goal, number in self.net.shown()
    refine ⟨_, rfl, x, CE, dx, _, _, rfl, S2 _ _ h1, T.clE, T.nNet, xf_net _ _ _ _, n, dn, _, rfl, S2 _ _ hn, noS, n, d, i, s, l, c, rfl, N.same S2, hlen, G.key, fun es p H3 hes S3 hp3 hsh => ?_⟩
    obtain ⟨ts, ht1, ht2⟩ := hsh
    have hfo3 := S3 _ _ (show upd (upd H l1 (.lst [.non])) fo (.lst (List.replicate i.toNat .non)) fo = _ from upd_same)
    refine ⟨p, rfl, ⟨_, SqT.of ht1⟩, for_tup (K := K) (a := p) (xs := ts.map V.ref) (fun j σ Hc => ∃ (v3 v4 v5 : Option V) (xs : List V), σ = [some (.ref x), some (.int a), some (.ref fo), v3, v4, v5] ∧
      (∀ b o, b ≠ fo → H3 b = some o → Hc b = some o) ∧ Hc fo = some (.lst xs) ∧ Filled (fun e => e.one / s = a) (fun e => e.mid.toNat) (fun e => e.one % s) (es.take j) i.toNat xs)
      ⟨none, none, none, _, rfl, fun b o _ h => h, hfo3, .nil⟩ (fun j σ Hc _ ⟨_, _, _, _, _, S, _, _⟩ => SqT.of (S p _ (ne_of ht1 hfo3 (by intro z; cases z)) ht1)) ?_ ?_⟩
    · rintro j y σ Hc hj ⟨v3, v4, v5, xs, rfl, Sc, hfoc, Fl⟩
      obtain ⟨t, ht, rfl⟩ := map_get hj
      obtain ⟨e, he, het⟩ := paired_get ht2 ht
      have htc : Hc t = some (.tup [.int e.one, .int e.goal, .int e.mid]) := Sc t _ (ne_of het hfo3 (by intro z; cases z)) het
      have hx3 : Hc x = some (.ins CE dx (xf l s i n)) := Sc x _ (ne_of (S3 _ _ (S2 _ _ h1)) hfo3 (by intro z; cases z)) (S3 _ _ (S2 _ _ h1))
      have hec : e ∈ c := hes.mem_iff.mp (List.mem_of_getElem? he)
      have hbe := G.bd e hec
      have htk : es.take (j + 1) = es.take j ++ [e] := by rw [List.take_succ, he] <;> rfl
      refine ⟨t, _, rfl, SqT.of htc, rfl, _, _, rfl, _, _, rfl, _, _, rfl, rfl, ?_⟩
      refine ⟨_, rfl, _, rfl, x, CE, dx, _, _, rfl, hx3, T.clE, T.nSlo, xf_slots _ _ _ _, _, _, rfl, rfl, ⟨by omega, by omega⟩, _, rfl, rfl, _, rfl, ?_⟩
      by_cases hs : e.one / s = a
      · rw [decide_eq_true (congrArg V.int hs)]
        refine iteT ⟨_, rfl, _, rfl, x, CE, dx, _, _, rfl, hx3, T.clE, T.nSlo, xf_slots _ _ _ _, _, _, rfl, rfl, (by omega), _, rfl, _, rfl, fo, xs, e.mid, e.mid.toNat, rfl, rfl, hfoc, ixN_nat hbe.2.2.2.2.1 (by rw [Fl.len]; omega), ?_⟩
        refine ⟨_, _, _, _, rfl, fun b o hb2 ho => ?_, upd_same, ?_⟩
        · rw [upd_ne hb2]
          exact Sc b o hb2 ho
        · rw [htk]
          refine Fl.put hs (by omega) fun y hy hys hyi => ?_
          have hyc : y ∈ c := hes.mem_iff.mp (List.mem_of_mem_take hy)
          have hby := G.bd y hyc
          have : y = e := G.inn hyc hec (hys.trans hs.symm) (by omega)
          subst this
          have hnd : es.Nodup := hes.nodup_iff.mpr G.nd
          obtain ⟨j2, hj2⟩ := List.mem_iff_getElem?.mp hy
          have hlt : j2 < j := by
            have := (List.getElem?_eq_some_iff.mp hj2).1
            rw [List.length_take] at this
            omega
          rw [List.getElem?_take_of_lt hlt] at hj2
          have := nd_ix hnd hj2 he
          omega
      · rw [decide_eq_false (fun z => hs (V.int.inj z))]
        refine iteF ⟨_, _, _, xs, rfl, Sc, hfoc, ?_⟩
        rw [htk]
        exact Fl.skip hs
    · rintro σ Hc ⟨v3, v4, v5, xs, rfl, Sc, hfoc, Fl⟩
      rw [List.length_map, ← paired_len ht2, List.take_length] at Fl
      refine ⟨_, rfl, fo, xs, rfl, .inl ⟨SqL.of hfoc, fun q hq => ?_⟩⟩
      have Sq : Same H Hc := fun b o h => Sc b o (ne_of_none h hfoH) (S3 _ _ (S2 _ _ h))
      exact k xs q _ (Fl.perm hes) (Sq.trans (same_new hq)) (Sq.free hq) upd_same
end
end Clx
/-! ## K11 -/
set_option Elab.async false
set_option linter.all false
set_option maxRecDepth 100000
set_option maxHeartbeats 4000000
set_option pp.maxSteps 1200
set_option pp.deepTerms false
/-! ### writes, joins -/
namespace Clx
open PySem PySem.Spec PyProof.Rows L2
theorem div_lt {x g s : Int} (h0 : 0 ≤ x) (h : x < g * s) (hb : 1 ≤ g ∧ g ≤ 3) : 0 ≤ x / g ∧ x / g < s := by
  have : g = 1 ∨ g = 2 ∨ g = 3 := by omega
  rcases this with rfl | rfl | rfl <;> omega
section
variable {P : Program} {w : World} {K : PySem.W.Frag} {mg : Str → Option Value} {base : Heap} {CC CE f fS : Addr} {fd fdS : FuncData}
def spWrites (CE CC : Addr) : Sp := fun vs H Q _ => ∃ (x n d : Addr) (l s i : Int) (c : List Call) (a : Int), vs = [.ref x, .int a] ∧ ExAt CE CC H x n d l s i c ∧ Good i s l c ∧
  GivesF (fun e => e.goal / s = a) (fun e => e.mid.toNat) (fun e => e.goal % s) c i.toNat H Q
theorem scWrites : FnScope ["self", "line", "found", "one", "goal", "number"] ["self", "line"] (defScope sWrites) := ⟨rfl, rfl, rfl, by decide +kernel, rfl, by decide +kernel, by decide +kernel⟩
theorem ok_writes (F : FnS K "writes" "Exchange.writes" sWrites f fd) (T : Txt K mg CC CE) (FS : FnS K "shown" "Clos.shown" sShown fS fdS) (mS : Meth K CC "shown" fS) : FnOk P w K mg base CX0 2 f fd ["self", "line"] (spWrites CE CC) := by
  have GS : FnOk P w K mg base CX0 1 fS fdS ["self"] (spShown CC) := ok_shown FS T
  have bS : Binds K fdS ["self"] [] := FS.bindsN fun _ _ _ _ _ _ us hl => match us, hl with | [_], _ => rfl
  refine F.ok scWrites (fun vs H Q E h => ?_) (fun cdv A outer s0 H vs Q E hr h => ?_)
  · obtain ⟨x, n, d, l, s, i, c, a, rfl, _⟩ := h
    rfl
  · obtain ⟨x, n, d, l, s, i, c, a, rfl, X, G, k⟩ := h
    obtain ⟨⟨dx, h1⟩, N⟩ := id X
    have hb := N.bd
    have hlen : c.length ≤ 9 := good_len G (mul_le9 ⟨hb.1, hb.2.1, hb.2.2.1, hb.2.2.2.1⟩)
    obtain ⟨dn, hn⟩ := N.ob
    refine ⟨_, PSs.nox (pss_cons (ps_set (i := 2) scWrites.nd rfl (Or.inl rfl) (pe_op op_rep (pe_lst (pa_cons pe_non pa_nil)) (pe_fld (pv 0) rfl)))
      (pss_cons (ps_for PassesOwn.never rfl (pi_tup (pe_meth0 (pe_fld (pv 0) rfl) T.clC mS GS hr bS .nil pass0)) (pg_tup rfl (pgs_cons (pg_name (i := 3) scWrites.nd rfl (Or.inl rfl)) (pgs_cons (pg_name (i := 4) scWrites.nd rfl (Or.inl rfl)) (pgs_cons (pg_name (i := 5) scWrites.nd rfl (Or.inl rfl)) pgs_nil))))
        (pss_one (ps_if (pt_cmpR op_eq (pe_op op_fdiv (pv 4) (pe_fld (pv 0) rfl)) (pv 1) (nomark _))
          (pss_one (ps_asg (pe_op op_mod (pv 4) (pe_fld (pv 0) rfl)) (pg_sub (pv 2) (pv 5) set_list))) pss_nil)))
      (pss_one (ps_ret (pe_callTy call_tuple_of (by rfl) T.gTuple (by decide +kernel) (pa_cons (pv 2) pa_nil)))))), ?_⟩
    have noS : (nf i s l d).lookup ("shown" : Str) = none := nf_no _ _ _ _ (by decide +kernel)
    -- found = [None] * self.inner
    refine ⟨(by show 1 ≤ sizeLine; decide), fun l1 hl1 => ?_⟩
    have S1 : Same H (upd H l1 (.lst [.non])) := same_new hl1
    refine ⟨_, rfl, x, CE, dx, _, _, rfl, S1 _ _ h1, T.clE, T.nInn, xf_inner _ _ _ _, l1, i, _, rfl, rfl, upd_same, by omega, by omega, (by show 1 * i.toNat ≤ sizeLine; exact Nat.le_of_lt (small1000 (by omega))), fun fo hfo => ?_⟩
    rw [rep_none]
    have S2 : Same H (upd (upd H l1 (.lst [.non])) fo (.lst (List.replicate i.toNat .non))) := S1.trans (same_new hfo)
    have hfoH : H fo = none := S1.free hfo
    -- for one, goal, number in self.net.shown()
    refine ⟨_, rfl, x, CE, dx, _, _, rfl, S2 _ _ h1, T.clE, T.nNet, xf_net _ _ _ _, n, dn, _, rfl, S2 _ _ hn, noS, n, d, i, s, l, c, rfl, N.same S2, hlen, G.key, fun es p H3 hes S3 hp3 hsh => ?_⟩
    obtain ⟨ts, ht1, ht2⟩ := hsh
    have hfo3 := S3 _ _ (show upd (upd H l1 (.lst [.non])) fo (.lst (List.replicate i.toNat .non)) fo = _ from upd_same)
    refine ⟨p, rfl, ⟨_, SqT.of ht1⟩, for_tup (K := K) (a := p) (xs := ts.map V.ref) (fun j σ Hc => ∃ (v3 v4 v5 : Option V) (xs : List V), σ = [some (.ref x), some (.int a), some (.ref fo), v3, v4, v5] ∧
      (∀ b o, b ≠ fo → H3 b = some o → Hc b = some o) ∧ Hc fo = some (.lst xs) ∧ Filled (fun e => e.goal / s = a) (fun e => e.mid.toNat) (fun e => e.goal % s) (es.take j) i.toNat xs)
      ⟨none, none, none, _, rfl, fun b o _ h => h, hfo3, .nil⟩ (fun j σ Hc _ ⟨_, _, _, _, _, S, _, _⟩ => SqT.of (S p _ (ne_of ht1 hfo3 (by intro z; cases z)) ht1)) ?_ ?_⟩
    · rintro j y σ Hc hj ⟨v3, v4, v5, xs, rfl, Sc, hfoc, Fl⟩
      obtain ⟨t, ht, rfl⟩ := map_get hj
      obtain ⟨e, he, het⟩ := paired_get ht2 ht
      have htc : Hc t = some (.tup [.int e.one, .int e.goal, .int e.mid]) := Sc t _ (ne_of het hfo3 (by intro z; cases z)) het
      have hx3 : Hc x = some (.ins CE dx (xf l s i n)) := Sc x _ (ne_of (S3 _ _ (S2 _ _ h1)) hfo3 (by intro z; cases z)) (S3 _ _ (S2 _ _ h1))
      have hec : e ∈ c := hes.mem_iff.mp (List.mem_of_getElem? he)
      have hbe := G.bd e hec
      have htk : es.take (j + 1) = es.take j ++ [e] := by rw [List.take_succ, he] <;> rfl
      refine ⟨t, _, rfl, SqT.of htc, rfl, _, _, rfl, _, _, rfl, _, _, rfl, rfl, ?_⟩
      refine ⟨_, rfl, _, rfl, x, CE, dx, _, _, rfl, hx3, T.clE, T.nSlo, xf_slots _ _ _ _, _, _, rfl, rfl, ⟨by omega, by omega⟩, _, rfl, rfl, _, rfl, ?_⟩
      by_cases hs : e.goal / s = a
      · rw [decide_eq_true (congrArg V.int hs)]
        refine iteT ⟨_, rfl, _, rfl, x, CE, dx, _, _, rfl, hx3, T.clE, T.nSlo, xf_slots _ _ _ _, _, _, rfl, rfl, (by omega), _, rfl, _, rfl, fo, xs, e.mid, e.mid.toNat, rfl, rfl, hfoc, ixN_nat hbe.2.2.2.2.1 (by rw [Fl.len]; omega), ?_⟩
        refine ⟨_, _, _, _, rfl, fun b o hb2 ho => ?_, upd_same, ?_⟩
        · rw [upd_ne hb2]
          exact Sc b o hb2 ho
        · rw [htk]
          refine Fl.put hs (by omega) fun y hy hys hyi => ?_
          have hyc : y ∈ c := hes.mem_iff.mp (List.mem_of_mem_take hy)
          have hby := G.bd y hyc
          have : y = e := G.out hyc hec (hys.trans hs.symm) (by omega)
          subst this
          have hnd : es.Nodup := hes.nodup_iff.mpr G.nd
          obtain ⟨j2, hj2⟩ := List.mem_iff_getElem?.mp hy
          have hlt : j2 < j := by
            have := (List.getElem?_eq_some_iff.mp hj2).1
            rw [List.length_take] at this
            omega
          rw [List.getElem?_take_of_lt hlt] at hj2
          have := nd_ix hnd hj2 he
          omega
      · rw [decide_eq_false (fun z => hs (V.int.inj z))]
        refine iteF ⟨_, _, _, xs, rfl, Sc, hfoc, ?_⟩
        rw [htk]
        exact Fl.skip hs
    · rintro σ Hc ⟨v3, v4, v5, xs, rfl, Sc, hfoc, Fl⟩
      rw [List.length_map, ← paired_len ht2, List.take_length] at Fl
      refine ⟨_, rfl, fo, xs, rfl, .inl ⟨SqL.of hfoc, fun q hq => ?_⟩⟩
      have Sq : Same H Hc := fun b o h => Sc b o (ne_of_none h hfoH) (S3 _ _ (S2 _ _ h))
      exact k xs q _ (Fl.perm hes) (Sq.trans (same_new hq)) (Sq.free hq) upd_same
def spJoins (CE CC : Addr) : Sp := fun vs H Q _ => ∃ (x n d : Addr) (l s i : Int) (c : List Call) (a : Int), vs = [.ref x, .int a] ∧ ExAt CE CC H x n d l s i c ∧ Good i s l c ∧
  GivesF (fun e => e.mid = a) (fun e => (e.one / s).toNat) (fun e => e.goal / s) c l.toNat H Q
theorem scJoins : FnScope ["self", "number", "found", "one", "goal", "inner"] ["self", "number"] (defScope sJoins) := ⟨rfl, rfl, rfl, by decide +kernel, rfl, by decide +kernel, by decide +kernel⟩
theorem ok_joins (F : FnS K "joins" "Exchange.joins" sJoins f fd) (T : Txt K mg CC CE) (FS : FnS K "shown" "Clos.shown" sShown fS fdS) (mS : Meth K CC "shown" fS) : FnOk P w K mg base CX0 2 f fd ["self", "number"] (spJoins CE CC) := by
  have GS : FnOk P w K mg base CX0 1 fS fdS ["self"] (spShown CC) := ok_shown FS T
  have bS : Binds K fdS ["self"] [] := FS.bindsN fun _ _ _ _ _ _ us hl => match us, hl with | [_], _ => rfl
  refine F.ok scJoins (fun vs H Q E h => ?_) (fun cdv A outer s0 H vs Q E hr h => ?_)
  · obtain ⟨x, n, d, l, s, i, c, a, rfl, _⟩ := h
    rfl
  · obtain ⟨x, n, d, l, s, i, c, a, rfl, X, G, k⟩ := h
    obtain ⟨⟨dx, h1⟩, N⟩ := id X
    have hb := N.bd
    have hlen : c.length ≤ 9 := good_len G (mul_le9 ⟨hb.1, hb.2.1, hb.2.2.1, hb.2.2.2.1⟩)
    obtain ⟨dn, hn⟩ := N.ob
    refine ⟨_, PSs.nox (pss_cons (ps_set (i := 2) scJoins.nd rfl (Or.inl rfl) (pe_op op_rep (pe_lst (pa_cons pe_non pa_nil)) (pe_fld (pv 0) rfl)))
      (pss_cons (ps_for PassesOwn.never rfl (pi_tup (pe_meth0 (pe_fld (pv 0) rfl) T.clC mS GS hr bS .nil pass0)) (pg_tup rfl (pgs_cons (pg_name (i := 3) scJoins.nd rfl (Or.inl rfl)) (pgs_cons (pg_name (i := 4) scJoins.nd rfl (Or.inl rfl)) (pgs_cons (pg_name (i := 5) scJoins.nd rfl (Or.inl rfl)) pgs_nil))))
        (pss_one (ps_if (pt_cmpR op_eq (pv 5) (pv 1) (nomark _))
          (pss_one (ps_asg (pe_op op_fdiv (pv 4) (pe_fld (pv 0) rfl)) (pg_sub (pv 2) (pe_op op_fdiv (pv 3) (pe_fld (pv 0) rfl)) set_list))) pss_nil)))
      (pss_one (ps_ret (pe_callTy call_tuple_of (by rfl) T.gTuple (by decide +kernel) (pa_cons (pv 2) pa_nil)))))), ?_⟩
    have noS : (nf i s l d).lookup ("shown" : Str) = none := nf_no _ _ _ _ (by decide +kernel)
    -- found = [None] * self.inner
    refine ⟨(by show 1 ≤ sizeLine; decide), fun l1 hl1 => ?_⟩
    have S1 : Same H (upd H l1 (.lst [.non])) := same_new hl1
    refine ⟨_, rfl, x, CE, dx, _, _, rfl, S1 _ _ h1, T.clE, T.nLin, xf_lines _ _ _ _, l1, l, _, rfl, rfl, upd_same, by omega, by omega, (by show 1 * l.toNat ≤ sizeLine; exact Nat.le_of_lt (small1000 (by omega))), fun fo hfo => ?_⟩
    rw [rep_none]
    have S2 : Same H (upd (upd H l1 (.lst [.non])) fo (.lst (List.replicate l.toNat .non))) := S1.trans (same_new hfo)
    have hfoH : H fo = none := S1.free hfo
    -- for one, goal, number in self.net.shown()
    refine ⟨_, rfl, x, CE, dx, _, _, rfl, S2 _ _ h1, T.clE, T.nNet, xf_net _ _ _ _, n, dn, _, rfl, S2 _ _ hn, noS, n, d, i, s, l, c, rfl, N.same S2, hlen, G.key, fun es p H3 hes S3 hp3 hsh => ?_⟩
    obtain ⟨ts, ht1, ht2⟩ := hsh
    have hfo3 := S3 _ _ (show upd (upd H l1 (.lst [.non])) fo (.lst (List.replicate l.toNat .non)) fo = _ from upd_same)
    refine ⟨p, rfl, ⟨_, SqT.of ht1⟩, for_tup (K := K) (a := p) (xs := ts.map V.ref) (fun j σ Hc => ∃ (v3 v4 v5 : Option V) (xs : List V), σ = [some (.ref x), some (.int a), some (.ref fo), v3, v4, v5] ∧
      (∀ b o, b ≠ fo → H3 b = some o → Hc b = some o) ∧ Hc fo = some (.lst xs) ∧ Filled (fun e => e.mid = a) (fun e => (e.one / s).toNat) (fun e => e.goal / s) (es.take j) l.toNat xs)
      ⟨none, none, none, _, rfl, fun b o _ h => h, hfo3, .nil⟩ (fun j σ Hc _ ⟨_, _, _, _, _, S, _, _⟩ => SqT.of (S p _ (ne_of ht1 hfo3 (by intro z; cases z)) ht1)) ?_ ?_⟩
    · rintro j y σ Hc hj ⟨v3, v4, v5, xs, rfl, Sc, hfoc, Fl⟩
      obtain ⟨t, ht, rfl⟩ := map_get hj
      obtain ⟨e, he, het⟩ := paired_get ht2 ht
      have htc : Hc t = some (.tup [.int e.one, .int e.goal, .int e.mid]) := Sc t _ (ne_of het hfo3 (by intro z; cases z)) het
      have hx3 : Hc x = some (.ins CE dx (xf l s i n)) := Sc x _ (ne_of (S3 _ _ (S2 _ _ h1)) hfo3 (by intro z; cases z)) (S3 _ _ (S2 _ _ h1))
      have hec : e ∈ c := hes.mem_iff.mp (List.mem_of_getElem? he)
      have hbe := G.bd e hec
      have htk : es.take (j + 1) = es.take j ++ [e] := by rw [List.take_succ, he] <;> rfl
      refine ⟨t, _, rfl, SqT.of htc, rfl, _, _, rfl, _, _, rfl, _, _, rfl, rfl, ?_⟩
      have hdv := div_lt hbe.1 hbe.2.1 ⟨hb.1, hb.2.1⟩
      refine ⟨_, rfl, _, rfl, rfl, _, rfl, ?_⟩
      by_cases hs : e.mid = a
      · rw [decide_eq_true (congrArg V.int hs)]
        refine iteT ⟨_, rfl, _, rfl, x, CE, dx, _, _, rfl, hx3, T.clE, T.nSlo, xf_slots _ _ _ _, _, _, rfl, rfl, ⟨by omega, by omega⟩, _, rfl, _, rfl, _, rfl, x, CE, dx, _, _, rfl, hx3, T.clE, T.nSlo, xf_slots _ _ _ _, _, _, rfl, rfl, ⟨by omega, by omega⟩, fo, xs, e.one / s, (e.one / s).toNat, rfl, rfl, hfoc, ixN_nat hdv.1 (by rw [Fl.len]; omega), ?_⟩
        refine ⟨_, _, _, _, rfl, fun b o hb2 ho => ?_, upd_same, ?_⟩
        · rw [upd_ne hb2]
          exact Sc b o hb2 ho
        · rw [htk]
          refine Fl.put hs (by omega) fun y hy hys hyi => ?_
          have hyc : y ∈ c := hes.mem_iff.mp (List.mem_of_mem_take hy)
          have hby := G.bd y hyc
          have hdy := div_lt hby.1 hby.2.1 ⟨hb.1, hb.2.1⟩
          have : y = e := G.inn hyc hec (by omega) (hys.trans hs.symm)
          subst this
          have hnd : es.Nodup := hes.nodup_iff.mpr G.nd
          obtain ⟨j2, hj2⟩ := List.mem_iff_getElem?.mp hy
          have hlt : j2 < j := by
            have := (List.getElem?_eq_some_iff.mp hj2).1
            rw [List.length_take] at this
            omega
          rw [List.getElem?_take_of_lt hlt] at hj2
          have := nd_ix hnd hj2 he
          omega
      · rw [decide_eq_false (fun z => hs (V.int.inj z))]
        refine iteF ⟨_, _, _, xs, rfl, Sc, hfoc, ?_⟩
        rw [htk]
        exact Fl.skip hs
    · rintro σ Hc ⟨v3, v4, v5, xs, rfl, Sc, hfoc, Fl⟩
      rw [List.length_map, ← paired_len ht2, List.take_length] at Fl
      refine ⟨_, rfl, fo, xs, rfl, .inl ⟨SqL.of hfoc, fun q hq => ?_⟩⟩
      have Sq : Same H Hc := fun b o h => Sc b o (ne_of_none h hfoH) (S3 _ _ (S2 _ _ h))
      exact k xs q _ (Fl.perm hes) (Sq.trans (same_new hq)) (Sq.free hq) upd_same
end
end Clx
/-! ## K12 -/
set_option Elab.async false
set_option linter.all false
set_option maxRecDepth 100000
set_option maxHeartbeats 4000000
set_option pp.maxSteps 1200
set_option pp.deepTerms false
/-! ### enumerate(t), t a tuple -/
namespace Clx
open PySem PySem.Spec PyProof.Rows L2
open Sem (wp)
set_option maxHeartbeats 8000000 in
theorem meets_enum1 {v : Value} {o : Obj} {HB : Heap → Prop} (B : Begins v o HB) :
    Meets (Builtin.«enumerate.__new__» ⟨[.type "enumerate", v], []⟩) (fun _ R s => HB s.heap ∧
      R (.ok (.ret (.ref (s.heap.push o).objs.size))) { s with heap := (s.heap.push o).push { cls := .type "enumerate", data := .fields #[.none, .bool false, .ref s.heap.objs.size, rawInt 0, .none, .none] } }) :=
  .of_wp fun prog w A R s h => by
    obtain ⟨hp, g, d, tk, os⟩ := s
    obtain ⟨h1, h⟩ := h
    have hsub := sub_enumerate
    have q1 : ∀ {A' : Around} {E : Value → Shared → Prop} {Q : Value → Shared → Prop}, Q (.ref hp.objs.size) ⟨hp.push o, g, d, tk, os⟩ → wpAny (model prog w) A' (pyIter v) Q E ⟨hp, g, d, tk, os⟩ :=
      fun q => B.iter prog w _ _ ⟨hp, g, d, tk, os⟩ _ h1 q
    wp_walk using q1
    refine wpAny_stack_any fun st => wpAny_pure ?_
    split
    · rename_i c _ _ _ _ _
      cases (c == Value.type "enumerate")
      · wp_walk using q1
        exact ⟨_, rfl, h⟩
      · wp_walk using q1
        exact ⟨_, rfl, h⟩
    · wp_walk using q1
      exact ⟨_, rfl, h⟩
theorem call_enum1 {prog : Program} {w : World} {A : Around} {E : Value → Shared → Prop} {s : Shared} {v : Value} {o : Obj} {HB : Heap → Prop} {Q : Value → Shared → Prop} (B : Begins v o HB) (h1 : HB s.heap)
    (h : ∀ h', IsEnum h' (s.heap.objs.size + 1) s.heap.objs.size 0 .none → h'.get? s.heap.objs.size = some o → h'.objs.size = s.heap.objs.size + 2 → (∀ b u, s.heap.get? b = some u → h'.get? b = some u) → Q (.ref (s.heap.objs.size + 1)) { s with heap := h' }) :
    wpAny (model prog w) A (call (.type "enumerate") [v]) Q E s := by
  refine callType_new F.called_enumerate (by decide) (F.typeCall_enumerate_1 _) (F.newCall_enumerate_1 _) (fun obj => F.args_object_init_2 obj _) F.entry_enumerate_new (meets_enum1 B) ⟨h1, ?_⟩
  have hz : (s.heap.push o).objs.size = s.heap.objs.size + 1 := Heap.size_push ..
  show _ ∧ _
  rw [hz]
  have he : IsEnum ((s.heap.push o).push { cls := .type "enumerate", data := .fields #[.none, .bool false, .ref s.heap.objs.size, rawInt 0, .none, .none] }) (s.heap.objs.size + 1) s.heap.objs.size 0 .none := by
    have q := Heap.get?_push_size (s.heap.push o) (o := { cls := .type "enumerate", data := .fields #[.none, .bool false, .ref s.heap.objs.size, rawInt 0, .none, .none] }) rfl
    rw [hz] at q
    exact q
  exact ⟨⟨_, he, rfl⟩, h _ he (Heap.get?_push_of_some _ (Heap.get?_push_size _ B.free)) (by rw [Heap.size_push, hz]) fun b u x => Heap.get?_push_of_some _ (Heap.get?_push_of_some _ x)⟩
/-- the tuple at a, each item in a new pair with its place -/
def IteT (K : PySem.W.Frag) (a : Addr) : It :=
  ⟨fun i H => ∃ (xs : List V) (x : V), SqT K H a xs ∧ xs[i]? = some x, fun i H v H' => ∃ T x, v = .ref T ∧ H T = none ∧ H' = upd H T (.tup [.int (i : Nat), x]) ∧ ∀ xs, SqT K H a xs → xs[i]? = some x, fun i H => ∃ xs : List V, SqT K H a xs ∧ xs.length = i⟩
theorem turn_enumT {P : Program} {w : World} {K : PySem.W.Frag} {elts : List Expr} {kk : Nat} {tpos : Pos} (a e it : Addr) :
    Turn P w K (.Tuple elts kk tpos) (IteT K a) [e, it] e (fun i h => (∃ old, IsEnum h e it ((i : Nat) : Int) old) ∧ h.IsTupleIter it a i ∧ e ≠ it) where
  mem := by simp
  obj := fun i h st b hb => by
    obtain ⟨⟨old, he⟩, ⟨o, ho, hc, hd⟩, _⟩ := st
    have e' : b = e ∨ b = it := by simpa using hb
    rcases e' with z | z
    · rw [z]
      exact ⟨_, he, fun v q => nomatch q⟩
    · rw [z]
      exact ⟨o, ho, fun v q => by rw [hd] at q; cases q⟩
  keep := fun i h h' st k => let ⟨⟨old, he⟩, hi, hne⟩ := st; ⟨⟨old, k e (by simp) _ he⟩, hi.at fun o q => k it (by simp) o q, hne⟩
  item := by
    intro X hP hw hK hc i pins s σ H E I hf st hg
    subst hP hw hK
    obtain ⟨⟨old, he⟩, hit, hne⟩ := st
    obtain ⟨xs, x, hq, hx⟩ := hg
    obtain ⟨its, rv, p, hz⟩ := I.tuple hq
    have pT : s.heap.IsTuple a its.toArray := p
    obtain ⟨u, hu, ru⟩ := rv.get hx
    have hel : e < s.heap.objs.size := Heap.lt_size he
    have hil : it < s.heap.objs.size := by
      obtain ⟨_, q, _⟩ := hit
      exact Heap.lt_size q
    have nait : a ≠ it := fun z => by
      obtain ⟨o1, q1, q2, _⟩ := pT
      obtain ⟨o2, q3, q4, _⟩ := hit
      rw [z, q3] at q1
      cases q1
      have q5 := q4.symm.trans q2
      injection q5 with q6
      exact absurd q6 (by decide)
    have nea : e ≠ a := fun z => by
      obtain ⟨o1, q1, q2, _⟩ := pT
      rw [← z, he] at q1
      cases q1
      injection q2 with q6
      exact absurd q6 (by decide)
    have D := Draws.tuple (prog := X.prog) (w := X.w) (A := X.A.in1) (I.ok.hd hc) it a nait its.toArray
    have hlt : i < its.toArray.size := by
      have := (List.getElem?_eq_some_iff.mp hu).1
      rw [List.size_toArray]
      exact this
    refine wpAny_pyNext_enum_itemD D he ⟨hit, pT⟩ hlt hne (by simp [hne, nea]) fun x' h' tk hP ho hit' hT hsz hk => ?_
    have exu : x' = u := by
      have h9 : its.toArray[i]? = some x' := hP
      rw [show its.toArray[i]? = its[i]? by simp, hu] at h9
      exact (Option.some.inj h9).symm
    subst exu
    refine ⟨_, rfl, wpAny_letOwnedTupleGo_enum (s := { s with heap := h', toks := tk + 1 }) ho fun h'' he' sb => ?_⟩
    have hT2 : h''.get? s.heap.objs.size = some { cls := .type "tuple", data := .seq #[.int i tk, x'] } := (sb.2 _ (Nat.ne_of_gt hel)).trans hT
    have new : ObjOk X.prog X.w (upd H s.heap.objs.size (.tup [.int (i : Nat), x])) h'' s.heap.objs.size (.tup [.int (i : Nat), x]) :=
      ⟨by show 2 ≤ sizeLine; decide, [.int i tk, x'], .cons ⟨_, rfl⟩ (.cons ru .nil), ⟨_, hT2, rfl, _, rfl⟩⟩
    have I1 : Inv X pins σ (upd H s.heap.objs.size (.tup [.int (i : Nat), x])) { s with heap := h'', toks := tk + 1 } :=
      I.turnedNew (ch := [e, it]) (fun b ob hb q => (sb.2 b (fun z => hb (by simp [z]))).trans (hk b ob (fun z => hb (by simp [z])) (fun z => hb (by simp [z])) q)) hf (Nat.le_refl _) new
    refine ⟨.ref s.heap.objs.size, _, I1, rfl, ⟨_, x, rfl, I.hok.fresh (Nat.le_refl _), rfl, fun ys hy => by rw [I.tuple_inj hy hq]; exact hx⟩, ⟨⟨x', ?_⟩, hit'.1.at fun o q => (sb.2 it (Ne.symm hne)).trans q, hne⟩, fun b hb => ?_⟩
    · have e1 : ((i + 1 : Nat) : Int) = (i : Int) + 1 := by omega
      rw [e1]
      exact he'
    · have hb' : b < s.heap.objs.size := by
        have e' : b = e ∨ b = it := by simpa using hb
        rcases e' with z | z
        · rw [z]
          exact hel
        · rw [z]
          exact hil
      rw [upd_ne (Nat.ne_of_lt hb')]
      exact (hf b hb).1
  done := by
    intro X hP hw hK hc i pins s σ H E I hf st hg
    subst hP hw hK
    obtain ⟨⟨old, he⟩, hit, hne⟩ := st
    obtain ⟨xs, hq, hx⟩ := hg
    obtain ⟨its, rv, p, hz⟩ := I.tuple hq
    have pT : s.heap.IsTuple a its.toArray := p
    obtain ⟨f0, f1, f2, f3, f4, f5⟩ := hf it (by simp)
    have hl := rv.length
    have hh : X.A.in1.handled = none := I.ok.hd hc
    have nait : a ≠ it := fun z => by
      obtain ⟨o1, q1, q2, _⟩ := pT
      obtain ⟨o2, q3, q4, _⟩ := hit
      rw [z, q3] at q1
      cases q1
      have q5 := q4.symm.trans q2
      injection q5 with q6
      exact absurd q6 (by decide)
    have D := Draws.tuple (prog := X.prog) (w := X.w) (A := X.A.in1) hh it a nait its.toArray
    have hsz : its.toArray.size = i := by
      rw [List.size_toArray]
      omega
    exact wpAny_pyNext_enum_endD D he (by rw [hsz]; exact ⟨hit, pT⟩) fun h' eb => ⟨rfl, I.turned (t' := s.toks) (fun b o hb q => eb b o hb q) f0 f1 f3 f4 f5⟩
  self := fun A i s Q E st h => let ⟨⟨_, he⟩, _⟩ := st; wpAny_pyIter_enum he h
def iEnumT (K : PySem.W.Frag) (ta : TA) : TI := fun σ H R => ta σ H fun vs H1 => ∃ a xs, vs = [.ref a] ∧ SqT K H1 a xs ∧ R (IteT K a) H1
theorem pi_enumT {X : Cx} {e : Expr} {ta : TA} {p pos tpos : Pos} {elts : List Expr} {kk : Nat} (hg : Gl X "enumerate") (hm : X.mg "enumerate" = none) (ha : PA X [e] ta) (hs : starEach [e] X.env = [(false, eval e X.env)] := by rfl) :
    PI X (.Tuple elts kk tpos) (.Call (.Name "enumerate" p) [e] [] pos) (iEnumT X.K ta) := by
  refine ⟨fun pins s σ H R I h => ?_⟩
  refine Call_ (ld_blt I hg hm boot_enumerate (PyProof.Rows.callWith_type1 (thn (ha.run pos pins s σ H _ I h) fun us s1 ⟨vs, H1, I1, r1, q1⟩ => ?_) hs rfl))
  obtain ⟨a, xs, ex, hq, q⟩ := q1
  subst ex
  cases r1 with
  | cons r rr =>
    cases rr
    cases r
    obtain ⟨its, rv, p', hz⟩ := I1.tuple hq
    refine call_enum1 (begins_tuple a its.toArray) p' fun h' he hit hsz hk => wpAny_pyIter_enum he ?_
    have I2 : Inv X pins σ H1 { s1 with heap := h' } := I1.kept (t' := s1.toks) hk
    refine ⟨s1.heap.objs.size + 1, [s1.heap.objs.size + 1, s1.heap.objs.size], _, _, H1, rfl, I2, turn_enumT a (s1.heap.objs.size + 1) s1.heap.objs.size, ⟨⟨.none, he⟩, ⟨_, hit, rfl, rfl⟩, Nat.succ_ne_self _⟩, fun b hb => ?_, q⟩
    have e' : b = s1.heap.objs.size + 1 ∨ b = s1.heap.objs.size := by simpa using hb
    have hle : s1.heap.objs.size ≤ b := by
      rcases e' with z | z
      · rw [z]
        exact Nat.le_add_right _ _
      · rw [z]
        exact Nat.le_refl _
    exact I1.fpOk hle (I1.hok.fresh hle)
theorem walk_enumT {K : PySem.W.Frag} {a : Addr} {xs : List V} : Walk (IteT K a) xs.length (fun H => SqT K H a xs) (YPair (fun i => some (.int (i : Nat))) (fun i => xs[i]?)) := by
  refine ⟨fun i _ hi q => ⟨xs, xs[i], q, by simp [hi]⟩, fun _ q => ⟨xs, q, rfl⟩, fun i H v H' _ q y => ?_⟩
  obtain ⟨T, x, h1, h2, h3, h4⟩ := y
  exact ⟨T, .int (i : Nat), x, h1, h2, h3, rfl, h4 xs q⟩
end Clx
/-! ## K13 -/
set_option Elab.async false
set_option linter.all false
set_option maxRecDepth 100000
set_option maxHeartbeats 4000000
set_option pp.maxSteps 1500
set_option pp.deepTerms false
/-! ### any(len(row) != self.f for row in rows), all rows as long as self.f -/
namespace Clx
open PySem PySem.Spec PyProof.Rows L2
section
variable {X : Cx} {pins : List (Addr × Obj)} {σ : L2.St} {H : Hp} {s : Shared}
/-- the generator's names: the row its own, self captured, len global -/
structure RowS (env : Env) (scope : Scope) (x se : Str) : Prop where
  gs : GxR.GenS env scope x
  len : scope.names.lookup ("len" : Str) = some .globalImplicit
  se : scope.names.lookup se = some .free
/-- the element: len(x) != se.f -/
abbrev rowE (x se f : Str) (p1 p2 p3 p4 p5 p6 : Pos) : Expr := .Compare (.Call (.Name "len" p1) [.Name x p2] [] p3) [.NotEq] [.Attribute (.Name se p4) f p5] p6
/-- what is asked: the rows at ca, each sN long; self (in slot i) an instance whose f is sN -/
structure RowsAt (K : PySem.W.Frag) (H : Hp) (σ : L2.St) (i : Nat) (f : Str) (ca : Addr) (rows : List Addr) : Prop where
  lst : SqL K H ca (rows.map V.ref)
  ob : ∃ (x C dx : Addr) (fs : List (Str × V)) (sN : Int), σ[i]? = some (some (.ref x)) ∧ H x = some (.ins C dx fs) ∧ Cls K C ∧ NoAttr K C f ∧ fs.lookup f = some (.int sN) ∧ ∀ r ∈ rows, ∃ xs, SqL K H r xs ∧ (xs.length : Int) = sN
theorem free_cells {cells : List (Str × Addr)} {names : List (Str × NameKind)} {y : Str} (hu : ∀ z ∈ names, names.lookup z.1 = some z.2) (hf : ∀ z ∈ names, z.2 = .free → ∃ c, cells.lookup z.1 = some c) (h : names.lookup y = some .free) : ∃ c, (cloFrom cells names []).lookup y = some c ∧ cells.lookup y = some c := by
  have hy : (y, NameKind.free) ∈ names := PySem.mem_of_lookup h
  obtain ⟨c, hc⟩ := mem_lookup (cloFrom_has (cells := cells) (acc := []) hy)
  refine ⟨c, hc, ?_⟩
  rcases cloFrom_mem (PySem.mem_of_lookup hc) with hm | ⟨h1, h2⟩
  · cases hm
  · obtain ⟨c1, e1⟩ := hf _ h1 rfl
    have e1 : cells.lookup y = some c1 := e1
    rw [h2, e1] <;> rfl
theorem elt_rows {x se f : Str} {p1 p2 p3 p4 p5 p6 : Pos} {i : Nat} {ca P : Addr} {rows : List Addr} {ps : Array Value} {H1 : Hp} {s1 s2 : Shared} {C2 : Addr} {code : Value} {A' : Around} {E' : Value → Shared → Prop} {m2 : Str → Option Value} {r : Addr}
    {scope : Scope} (hN : X.N[i]? = some se) (hv : Vis X.env.scope se) (hnl : X.env.scope.names.lookup se ≠ some .local) (S : RowS X.env scope x se) (hu : ∀ z ∈ scope.names, scope.names.lookup z.1 = some z.2) (hm : X.mg "len" = none) (I1 : Inv X pins σ H1 s1) (R : RowsAt X.K H1 σ i f ca rows) (hP : H1 P = some (.tbl ps)) (hr : r ∈ rows)
    (keep : ∀ b o, b ≠ P → s1.heap.get? b = some o → s2.heap.get? b = some o) (hn : s2.heap.Ns C2 m2) (hx : m2 x = some (.ref r)) (hdx : (x == ("__debug__" : Str)) = false) (hds : (se == ("__debug__" : Str)) = false) (hcs : (se == ("__classdict__" : Str)) = false)
    (hat : ∀ env, attributeBase (.Name se p4) f env (eval (.Name se p4) env) = eval (.Name se p4) env) :
    wpAny (model X.prog X.w) A' (eval (rowE x se f p1 p2 p3 p4 p5 p6) (genEnv scope (cloFrom X.env.cells scope.names []) C2 code builtinsNs X.env)) (fun y s3 => y = .bool false ∧ Keeps s2 s3) E' s2 := by
  obtain ⟨hlst, xo, C, dx, fs, sN, hσ, ho, hcl, hna, hfl, hrows⟩ := R
  obtain ⟨xs, hxs, hlen⟩ := hrows r hr
  have nP : ∀ b u, H1 b = some u → (∀ q, u ≠ .tbl q) → b ≠ P := fun b u e q z => by
    rw [z, hP] at e
    exact q ps (Option.some.inj e).symm
  have nN : ∀ b, H1 b = none → b ≠ P := fun b e z => by
    rw [z, hP] at e
    cases e
  have bk : ∀ b o, X.base.get? b = some o → s2.heap.get? b = some o := fun b o e => keep b o (nN b (I1.bs b o e).2) (I1.bk b o e)
  have KX : X.K.In s2.heap := I1.ok.mod.kin.keeps bk
  obtain ⟨mb, hb1, hb2⟩ := I1.mod.blt
  -- the row's length
  obtain ⟨its, rv, pl, hz⟩ := I1.list hxs
  have hil : s2.heap.IsList r its.toArray := by
    obtain ⟨ol, e1, e2⟩ := _root_.id pl.isList
    refine ⟨ol, keep r ol ?_ e1, e2⟩
    intro z
    have e3 := I1.hok P _ hP
    have e3 : s1.heap.get? P = some { cls := .none, data := .fields ps } := e3
    rw [z, e3] at e1
    cases e1
    obtain ⟨q1, _⟩ := e2
    cases q1
  -- self
  obtain ⟨m1, hns1, hl1⟩ := I1.loc
  obtain ⟨u, ru, lk⟩ := hl1 i se (.ref xo) hN hσ hv
  obtain rfl : u = Value.ref xo := ru
  obtain ⟨cc, hcc, hcell⟩ : ∃ c, X.env.cells.lookup se = some c ∧ s1.heap.IsCell c (some (.ref xo)) := by
    rcases lk with ⟨k1, _⟩ | ⟨_, c, e1, e2⟩
    · exact (hnl k1).elim
    · exact ⟨c, e1, e2⟩
  obtain ⟨c3, hc3, hc4⟩ := free_cells hu S.gs.free S.se
  have e34 : c3 = cc := by
    rw [hcc] at hc4
    exact (Option.some.inj hc4).symm
  subst e34
  have hcell2 : s2.heap.IsCell c3 (some (.ref xo)) := by
    obtain ⟨oc, e1, e2⟩ := hcell
    exact ⟨oc, keep _ _ (nN c3 (I1.freeC se c3 hcc)) e1, e2⟩
  -- the instance
  have ob2 : ObjOk X.prog X.w H1 s2.heap xo (.ins C dx fs) := (I1.hok xo _ ho).stay (fun b v hb q => keep b v (by
      rcases hb with z | z
      · rw [z]
        exact nP xo _ ho (fun q z => by cases z)
      · exact nP b _ z (fun q z => by cases z)) q) (fun _ q => q) (fun _ _ q => q)
  obtain ⟨d1, z1, ne1, ob1, mA, n1, r1, q1⟩ := ob2
  obtain ⟨u2, hu2, ru2⟩ := RelO.some_of (v := V.int sN) (o := mA f) (by rw [← hfl]; exact r1 f)
  obtain ⟨tk2, rfl⟩ := (show ∃ t, u2 = Value.int sN t from ru2)
  refine wpAny_Compare1 ?_
  have hkind : (genEnv scope (cloFrom X.env.cells scope.names []) C2 code builtinsNs X.env).scope.kind = .function := S.gs.kind
  refine wpAny_Call_Name_kw (Calls.Name_function_global hkind S.len (Calls.loadGlobal_builtin (by show s2.heap.Ns X.env.globals X.mg; rw [I1.ok.glob]; exact I1.mod.glob.keeps bk) hm (hb1.keeps bk) ((hb2 "len" (by decide)).trans PySem.boot_len) ?_) (by decide))
  refine PyProof.Rows.callWith_builtin1 ?_ rfl rfl
  refine Calls.spliced_cons (wpAny_Name (wpAny_loadName_local hkind S.gs.loc hn hx ?_) hdx)
  refine Calls.spliced_nil ?_
  have hn63 := line63
  have hlr := rv.length
  refine Calls.call_len_list hil (by simp only [List.size_toArray] <;> omega) ?_
  refine attr_of (hat _) (wpAny_Name (wpAny_loadName_free hkind S.se hc3 hcell2 ?_ hcs) hds)
  refine get_map KX (mA := mA) ⟨ob1, n1, ne1⟩ (hcl.get f) hcl.hd hna hu2 (handed_of ru2) ?_
  refine PyProof.Rows.ne_int ⟨?_, s2.heap, _, rfl, fun _ _ e => e⟩
  have e9 : ((its.toArray.size : Nat) : Int) = sN := by
    rw [List.size_toArray, ← hlr]
    exact hlen
  rw [e9, bne_self_eq_false]
/-- the generator g over n rows, each false, ready to be walked, in the state s5; H1: what was held before -/
def ReadyR (X : Cx) (pins : List (Addr × Obj)) (σ : L2.St) (H1 : Hp) (P : Addr) (g : Addr) (s5 : Shared) : Prop :=
  ∃ (n : Nat) (fp wr : List Addr) (G : Array GenState → Array GenState → Prop) (F : Nat → Value → Prop) (St : Nat → Shared → Prop),
    WalksS X.prog X.w X.A.in1 g fp wr G n F St ∧ St 0 s5 ∧ TruthOf X.prog X.w X.A.in1 F (fun _ => false) ∧ ∀ s', Moved wr G s5 s' → ∃ H2, GxR.Tabbed P H1 H2 ∧ Inv X pins σ H2 s'
theorem gen_rows {c P : Addr} {x se f : Str} {p1 p2 p3 p4 p5 p6 px gpos : Pos} {iter : Expr} {scope : Scope} {te : TE} {k i : Nat} {Q' : Value → Shared → Prop} {R : Hp → Prop}
    (hr : Room k X.A) (TB : GxR.TabB X.base X.mg c P) (hcode : X.env.code = .ref c) (S : RowS X.env scope x se) (hu : ∀ z ∈ scope.names, scope.names.lookup z.1 = some z.2) (hN : X.N[i]? = some se) (hv : Vis X.env.scope se) (hnl : X.env.scope.names.lookup se ≠ some .local) (hm : X.mg "len" = none)
    (hi : PE X iter te) (hs : ∀ v, genFold iter X.env v = pure v) (hdx : (x == ("__debug__" : Str)) = false) (hds : (se == ("__debug__" : Str)) = false) (hcs : (se == ("__classdict__" : Str)) = false) (hat : ∀ env, attributeBase (.Name se p4) f env (eval (.Name se p4) env) = eval (.Name se p4) env)
    (I : Inv X pins σ H s) (h : te σ H fun v H1 => ∃ (ca : Addr) (rows : List Addr), v = .ref ca ∧ RowsAt X.K H1 σ i f ca rows ∧ GxR.TabG H1 P ∧ R H1)
    (hQ : ∀ H1 g s5, R H1 → ReadyR X pins σ H1 P g s5 → Q' (.ref g) s5) :
    wpAny (model X.prog X.w) X.A (eval (.GeneratorExp (rowE x se f p1 p2 p3 p4 p5 p6) [⟨.Name x px, iter, [], 0⟩] scope gpos) X.env) Q' X.xe s := by
  refine wpAny_GeneratorExp_walksQ hr.hd S.gs.co (closure_ok S.gs.free) S.gs.cell S.gs.dot S.gs.loc S.gs.kind (by have := hr.dp; omega) ?_ hs
  refine thn (hi.run pins s σ H _ I h) fun xv s1 ⟨v, H1, I1, r1, q1⟩ => ?_
  obtain ⟨yl, rows, rfl, hR, ⟨ps, hP, ht⟩, q1⟩ := q1
  obtain rfl : xv = Value.ref yl := r1
  obtain ⟨its, rv, hl, hz⟩ := I1.list hR.lst
  have hIL := hl.isList
  have hlen : its.length = rows.length := by rw [← rv.length, List.length_map]
  have hat2 : ∀ (j : Nat) (v : Value), its.toArray[j]? = some v → ∃ r : Addr, r ∈ rows ∧ v = .ref r := fun j v hv => by
    have hv2 : its[j]? = some v := by simpa using hv
    have hi2 : j < its.length := (List.getElem?_eq_some_iff.mp hv2).1
    obtain ⟨a, ha⟩ : ∃ a, rows[j]? = some a := ⟨rows[j]'(by omega), List.getElem?_eq_getElem _⟩
    have hb : (rows.map V.ref)[j]? = some (V.ref a) := by rw [List.getElem?_map, ha] <;> rfl
    obtain ⟨u, hu, ru⟩ := rv.get hb
    rw [hv2] at hu
    cases hu
    exact ⟨a, List.mem_of_getElem? ha, ru⟩
  refine wpAny_pyIter_list hIL ?_
  generalize ho : ({ cls := .type "list_iterator", data := .fields #[.ref yl, .int 0 0] } : Obj) = o
  have hitr : (s1.heap.push o).IsListIter s1.heap.objs.size yl 0 := by
    subst ho
    exact ⟨_, Heap.get?_push_size _ rfl, rfl, rfl⟩
  have hylt : yl < s1.heap.objs.size := by
    obtain ⟨_, e, _⟩ := _root_.id hIL
    exact Heap.lt_size e
  have hPs : s1.heap.get? P = some { cls := .none, data := .fields ps } := I1.hok P _ hP
  have hPlt : P < s1.heap.objs.size := Heap.lt_size hPs
  have hP2 : (s1.heap.push o).get? P = some { cls := .none, data := .fields ps } := Heap.get?_push_of_some _ hPs
  have cd : PySem.W.CodeHd (s1.heap.push o) c P := TB.code.keeps fun b u e => Heap.get?_push_of_some _ (I1.bk b u e)
  have lim2 : (s1.heap.push o).NoLimit := I1.nolimit.push o
  have cont : ∀ (code : Value) (h3 : Heap) (tk : Nat) (ps' : Array Value), Heap.ExtBut P (s1.heap.push o) h3 → (s1.heap.push o).objs.size ≤ h3.objs.size → h3.get? P = some { cls := .none, data := .fields ps' } → (∃ more, ps' = ps ++ more) → TriplesOk ps'.toList →
      wpAny (model X.prog X.w) X.A (builtinsFor X.env.globals X.env.builtins) (fun bi s₄ =>
        ∃ Ia fp wr n₀ Pf St₀ pz F, Value.ref s1.heap.objs.size = .ref Ia ∧ (∀ A' : Around, A'.handled = none → Walks X.prog X.w A' Ia fp wr n₀ Pf St₀) ∧ St₀ 0 s₄.heap ∧ (∀ b ∈ fp, b < s₄.heap.objs.size) ∧ s₄.heap.NoLimit ∧ cStatics ∉ wr ∧
          (∀ href : Heap, (∀ b o, s₄.heap.get? b = some o → href.get? b = some o) →
            QuietGen X.prog X.w (genEnv scope (cloFrom X.env.cells scope.names []) s₄.heap.objs.size code bi X.env) x [] (rowE x se f p1 p2 p3 p4 p5 p6) (List.range s₄.heap.objs.size) wr Pf pz F href) ∧
          (∀ a h₅ tk gs, gs.bare = true → s₄.heap.objs.size < a → h₅.objs.size = a + 1 → (∀ b o, s₄.heap.get? b = some o → h₅.get? b = some o) →
            WalksS X.prog X.w X.A.in4 a (a :: s₄.heap.objs.size :: List.range s₄.heap.objs.size) (s₄.heap.objs.size :: wr) (GenOnlyQ s₄.gens.size) (passing pz n₀ 0).length
              (fun j y => ∃ i, (passing pz n₀ 0)[j]? = some i ∧ F i y) (GenAt X.prog X.w X.A.in4 a s₄.gens.size s₄.heap.objs.size (List.range s₄.heap.objs.size) wr pz n₀ F) →
            GenAt X.prog X.w X.A.in4 a s₄.gens.size s₄.heap.objs.size (List.range s₄.heap.objs.size) wr pz n₀ F 0 { s₄ with gens := s₄.gens.push gs, toks := tk, heap := h₅ } →
            Q' (.ref a) { s₄ with gens := s₄.gens.push gs, toks := tk, heap := h₅ })) X.xe { s1 with heap := h3, toks := tk } := by
    intro code h3 tk ps' hx hsz hP3 hmore ht3
    obtain ⟨bm, ob, e1, e2, e3, e4, e5, e6, e7, e8⟩ := TB.bm
    have hcP : cStatics ≠ P := fun e => by
      obtain ⟨_, hns, _⟩ := I1.nolimit
      obtain ⟨o', es, ep, ho, hd, _⟩ := hns
      rw [e, hPs] at ho
      cases ho
      cases hd
    have hcl : cStatics < s1.heap.objs.size := let ⟨_, hns, _⟩ := I1.nolimit; hns.lt
    have sz2 : (s1.heap.push o).objs.size = s1.heap.objs.size + 1 := Heap.size_push ..
    have keep3 : ∀ b u, b ≠ P → s1.heap.get? b = some u → h3.get? b = some u := fun b u hb e => hx b u hb (Heap.get?_push_of_some _ e)
    refine wpAny_builtinsFor (m := X.mg) (by rw [I1.ok.glob]; exact ((I1.mod.glob.keeps I1.bk).push o).extBut hx TB.gP) e1 e2 (keep3 _ _ e4 (I1.bk _ _ e5)) e6 e7 e8 ?_
    have hylP : yl ≠ P := fun z => by
      obtain ⟨_, e, hc1, _, hd1⟩ := _root_.id hIL
      rw [z, hPs] at e
      cases e
      cases hd1
    have hIL3 : h3.IsList yl its.toArray := by
      obtain ⟨ob, e, r⟩ := _root_.id hIL
      exact ⟨ob, keep3 _ _ hylP e, r⟩
    have hItr3 : h3.IsListIter s1.heap.objs.size yl 0 := hitr.at fun u e => hx _ u (Nat.ne_of_gt hPlt) e
    refine ⟨s1.heap.objs.size, [s1.heap.objs.size, yl], [s1.heap.objs.size], its.toArray.size, (fun i v => its.toArray[i]? = some v), (fun i h => h.IsListIter s1.heap.objs.size yl i ∧ h.IsList yl its.toArray), (fun _ => true),
      (fun i y => y = .bool false), rfl, (fun A' hA => Walks.list hA _ _ (Nat.ne_of_lt hylt) _), ⟨hItr3, hIL3⟩, ?_, lim2.extBut hx hcP, ?_, ?_, ?_⟩
    · intro b hb
      rcases List.mem_cons.mp hb with z | z
      · rw [z]
        show s1.heap.objs.size < h3.objs.size
        omega
      · rcases List.mem_cons.mp z with z | z
        · rw [z]
          have e9 : s1.heap.objs.size ≤ h3.objs.size := by omega
          exact Nat.lt_of_lt_of_le hylt e9
        · cases z
    · intro z
      rcases List.mem_cons.mp z with z | z
      · exact Nat.ne_of_lt hcl z
      · cases z
    · intro href hhref
      refine ⟨fun A' E' i v s₂ m₂ hA hPv hn hm hk => ?_, fun A' E' j v s₂ m₂ hA hPv hp hn hm2 hk => ?_⟩
      · simp only [List.forIn_nil]
        exact wpAny_pure ⟨rfl, GxR.keeps_refl _⟩
      · obtain ⟨r, hr2, rfl⟩ := hat2 j v hPv
        refine elt_rows (ps := ps) (P := P) hN hv hnl S hu hm I1 hR hP hr2 (fun b u hb e => ?_) hn hm2 hdx hds hcs hat
        have hbs : b < s1.heap.objs.size := Heap.lt_size e
        refine hk b (List.mem_range.mpr ?_) (fun z => ?_) u (hhref b u (keep3 b u hb e))
        · have e9 : s1.heap.objs.size ≤ h3.objs.size := by omega
          exact Nat.lt_of_lt_of_le hbs e9
        · rcases List.mem_cons.mp z with z | z
          · rw [z] at hbs
            exact Nat.lt_irrefl _ hbs
          · cases z
    · intro g h5 tk5 gs hgb hag hsz5 hk5 W5 hgat
      simp only [GxR.passing_true, List.length_range] at W5
      refine hQ H1 g _ q1 ⟨_, _, _, _, _, _, W5.in4_1, hgat, ?_, fun s' hm => ?_⟩
      · intro j y sj Qj Ej hy hQj
        obtain ⟨i, hij, rfl⟩ := hy
        exact wpAny_truthy_bool hQj
      · obtain ⟨more, em⟩ := hmore
        have nwr : ∀ b u, s1.heap.get? b = some u → b ∉ h3.objs.size :: [s1.heap.objs.size] := fun b u e hb => by
          have hl := Heap.lt_size e
          rcases List.mem_cons.mp hb with z | z
          · rw [z] at hl
            have h9 : (h3.objs.size : Nat) < s1.heap.objs.size := hl
            omega
          · rcases List.mem_cons.mp z with z | z
            · rw [z] at hl
              exact Nat.lt_irrefl _ hl
            · cases z
        have J := GxR.inv_tab (more := more) (h' := s'.heap) (g' := s'.gens) (d' := s'.drawn) (t' := s'.toks) I1 hP (fun b u hb e => hm.heap b u (nwr b u e) (hk5 b u (keep3 b u hb e)))
          (by rw [← em]; exact hm.heap P _ (nwr P _ hPs) (hk5 P _ hP3)) (AllBare.movedS (I1.bare.push hgb) hm)
        rw [GxR.sh_eta s1 s' hm.os] at J
        refine ⟨upd H1 P (.tbl (ps ++ more)), ⟨⟨ps ++ more, upd_same, by rw [← em]; exact ht3⟩, fun b hb => upd_ne hb⟩, J⟩
  refine ⟨lim2, ?_⟩
  cases hf : codeAmong gpos ps.toList with
  | none =>
    refine wpAny_genexprCodeX hcode (cd.code hP2 ht) (cd.tab hP2) hf fun c' h' tk hx hge hlt hco' _ htab' _ => ?_
    obtain ⟨o1, vs, f1, tf, fl, tg, inF, tx, tt, op, _, _, _, _, _, _, _, _, _, htr, _⟩ := hco'
    exact cont _ h' tk _ hx (Nat.le_trans hge (Nat.le_of_lt hlt)) htab'.2 ⟨_, rfl⟩ htr
  | some cv =>
    refine wpAny_genexprCode_hit hcode (cd.code hP2 ht) hf ?_
    exact cont cv (s1.heap.push o) s1.toks ps (Heap.ExtBut.refl _ _) (Nat.le_refl _) hP2 ⟨#[], by simp⟩ ht
/-- any(len(x) != self.f for x in rows), all rows as long as told -/
def tAnyR (K : PySem.W.Frag) (P : Addr) (i : Nat) (f : Str) (te : TE) : TE := fun σ H Q => te σ H fun v H1 => ∃ (ca : Addr) (rows : List Addr), v = .ref ca ∧ RowsAt K H1 σ i f ca rows ∧ GxR.TabG H1 P ∧ ∀ H2, GxR.Tabbed P H1 H2 → Q (.bl false) H2
theorem pe_anyR {c P : Addr} {x se f : Str} {p1 p2 p3 p4 p5 p6 px p pos gpos : Pos} {iter : Expr} {scope : Scope} {te : TE} {k i : Nat}
    (hr : Room k X.A) (hg : Gl X "any") (hmA : X.mg "any" = none) (TB : GxR.TabB X.base X.mg c P) (hcode : X.env.code = .ref c) (S : RowS X.env scope x se) (hu : ∀ z ∈ scope.names, scope.names.lookup z.1 = some z.2) (hN : X.N[i]? = some se) (hv : Vis X.env.scope se)
    (hnl : X.env.scope.names.lookup se ≠ some .local) (hm : X.mg "len" = none) (hi : PE X iter te) (hs : ∀ v, genFold iter X.env v = pure v) (hdx : (x == ("__debug__" : Str)) = false) (hds : (se == ("__debug__" : Str)) = false) (hcs : (se == ("__classdict__" : Str)) = false)
    (hat : ∀ env, attributeBase (.Name se p4) f env (eval (.Name se p4) env) = eval (.Name se p4) env)
    (he : starEach [.GeneratorExp (rowE x se f p1 p2 p3 p4 p5 p6) [⟨.Name x px, iter, [], 0⟩] scope gpos] X.env = (false, eval (.GeneratorExp (rowE x se f p1 p2 p3 p4 p5 p6) [⟨.Name x px, iter, [], 0⟩] scope gpos) X.env) :: starEach [] X.env := by rfl) :
    PE X (.Call (.Name "any" p) [.GeneratorExp (rowE x se f p1 p2 p3 p4 p5 p6) [⟨.Name x px, iter, [], 0⟩] scope gpos] [] pos) (tAnyR X.K P i f te) := by
  refine ⟨fun pins s σ H Q I h => ?_⟩
  refine wpAny_Call_Name_kw (ld_blt I hg hmA boot_any ?_)
  refine PyProof.Rows.callWith_builtin1 ?_ he (by rfl)
  rw [he]
  show wpAny _ _ (spliced ((false, eval (.GeneratorExp (rowE x se f p1 p2 p3 p4 p5 p6) [⟨.Name x px, iter, [], 0⟩] scope gpos) X.env) :: backTo pos (starEach [] X.env))) _ _ s
  refine Calls.spliced_cons (gen_rows (R := fun H1 => ∀ H2, GxR.Tabbed P H1 H2 → Q (.bl false) H2) hr TB hcode S hu hN hv hnl hm hi hs hdx hds hcs hat I h fun H1 g s5 hR hG => ?_)
  obtain ⟨n, fp, wr, G, F, St, W, hst, htr, hI⟩ := hG
  refine Calls.spliced_nil ?_
  refine call_any_walkS (W.self 0 _ _ _ hst ⟨g, fp, wr, G, _, F, St, _, rfl, W, hst, htr, fun s' hmv => ?_⟩)
  obtain ⟨H2, hT, J⟩ := hI s' hmv
  refine ⟨.bl _, H2, J, rfl, ?_⟩
  have e0 : (List.range n).any (fun _ => false) = false := by simp
  rw [e0]
  exact hR H2 hT
end
end Clx
/-! ## K14 -/
set_option Elab.async false
set_option linter.all false
set_option maxRecDepth 100000
set_option maxHeartbeats 4000000
set_option pp.maxSteps 1500
set_option pp.deepTerms false
/-! ### frame -/
namespace Clx
open PySem PySem.Spec PyProof.Rows L2
/-- as FunD.ok, the code object told -/
theorem okC {P : Program} {w : World} {K : PySem.W.Frag} {mg : Str → Option Value} {base : Heap} {x qual : Str} {st : Stmt} {f : Addr} {fd : FuncData} {CX : CXT} {N ps : List Str} {k : Nat} {sp : Sp} (F : FnS K x qual st f fd) (S : FnScope N ps (defScope st)) (len : ∀ vs H Q E, sp vs H Q E → vs.length = ps.length)
    (hbody : ∀ (c : Addr) (A : Around) (outer : List Env) (s : Shared) (H : Hp) (vs : List V) (Q : VK) (E : XK), fd.code = .ref c → Room k (A.deeper (envOfC qual (defScope st) s.heap.objs.size f (.ref c))) → sp vs H Q E →
      ∃ t, PSs (cxOf CX P w K mg base N qual (defScope st) f (.ref c) A outer s H E) (defBody st) t ∧ t { nx := fun _ H' => Q .non H', rt := Q } (L2.start N vs) H) : FnOk P w K mg base CX (k + 1) f fd ps sp := by
  obtain ⟨oc, od, dV, kV, doc, pm, an, cdv, ct, osl, rfl, lk, hcd, _, _⟩ := F.ex
  obtain ⟨c, rfl⟩ := He.codeIn_ref hcd
  exact fn_of lk hcd S len fun A outer s H vs Q E hr hsp => hbody c A outer s H vs Q E rfl hr hsp
theorem gen_free {sc scope : Scope} {n : Nat} {se : Str} (h1 : ∀ y ∈ scope.names, y.2 = .free → y.1 = se) (h2 : sc.names.lookup se = some .cell) : ∀ y ∈ scope.names, y.2 = .free → ∃ c, (cellsFrom n sc.names []).lookup y.1 = some c := fun y hy e => by
  rw [h1 y hy e]
  exact cell_has h2
/-- all but the table at P stays -/
def SameB (P : Addr) (H H' : Hp) : Prop := ∀ b o, b ≠ P → H b = some o → H' b = some o
theorem SameB.refl (P : Addr) (H : Hp) : SameB P H H := fun _ _ _ h => h
theorem SameB.same {P : Addr} {H H1 H2 : Hp} (a : SameB P H H1) (b : Same H1 H2) : SameB P H H2 := fun c o hc h => b c o (a c o hc h)
theorem Same.sameB {P : Addr} {H H1 : Hp} (a : Same H H1) : SameB P H H1 := fun c o _ h => a c o h
theorem SameB.extN {P : Addr} {H H' : Hp} (a : SameB P H H') {ps : Array Value} (hP : H P = some (.tbl ps)) : ExtN H H' := fun b o h n => a b o (fun z => by
  rw [z, hP] at h
  exact n ps (Option.some.inj h).symm) h
theorem SqL.sameB {K : PySem.W.Frag} {P : Addr} {H H' : Hp} {r : Addr} {xs : List V} {ps : Array Value} (a : SameB P H H') (hP : H P = some (.tbl ps)) (h : SqL K H r xs) : SqL K H' r xs := by
  have e := a.extN hP
  rcases h with (h | ⟨o, h⟩) | h
  · exact .inl (.inl (e _ _ h fun _ z => by cases z))
  · exact .inl (.inr ⟨o, e _ _ h fun _ z => by cases z⟩)
  · exact .inr h
theorem sqL_same {K : PySem.W.Frag} {H H' : Hp} {r : Addr} {xs : List V} (h : SqL K H r xs) (e : Same H H') : SqL K H' r xs := by
  rcases h with (h | ⟨o, h⟩) | h
  · exact .inl (.inl (e _ _ h))
  · exact .inl (.inr ⟨o, e _ _ h⟩)
  · exact .inr h
/-- the cells handed in: row a's slot b holds cv a b -/
def CellsAt (K : PySem.W.Frag) (H : Hp) (ca : Addr) (rows : List Addr) (l s : Int) (cv : Int → Int → V) : Prop := SqL K H ca (rows.map V.ref) ∧ (rows.length : Int) = l ∧
  (∀ r ∈ rows, ∃ xs, SqL K H r xs ∧ (xs.length : Int) = s) ∧ ∀ (a b : Nat), (a : Int) < l → (b : Int) < s → ∃ r xs, rows[a]? = some r ∧ SqL K H r xs ∧ xs[b]? = some (cv a b)
/-- one place of the frame that comes out: of the calls that are done -/
def PlaceOk (c : List Call) (s : Int) (done : Call → Prop) (cv : Int → Int → V) (i j : Nat) (v : Option V) : Prop :=
  (∀ e ∈ c, done e → e.goal = (i : Int) * s + (j : Int) → v = some (cv (e.one / s) (e.one % s))) ∧ ((∀ e ∈ c, done e → e.goal ≠ (i : Int) * s + (j : Int)) → v = some .non)
/-- the rows of the frame that comes out, as lists | tuples -/
def GridAt (mk : List V → HO) (H : Hp) (os : List Addr) (l s : Int) (c : List Call) (done : Call → Prop) (cv : Int → Int → V) : Prop := (os.length : Int) = l ∧ ∀ i o, os[i]? = some o → ∃ xs, H o = some (mk xs) ∧ (xs.length : Int) = s ∧ ∀ j : Nat, (j : Int) < s → PlaceOk c s done cv i j xs[j]?
/-- the rows, none in each place, in the new list at D -/
structure RowsNone (H0 H : Hp) (D : Addr) (os : List Addr) (n s : Nat) : Prop where
  lst : H D = some (.lst (os.map V.ref))
  len : os.length = n
  nd : os.Nodup
  nD : D ∉ os
  new : ∀ o ∈ os, H0 o = none
  row : ∀ o ∈ os, H o = some (.lst (List.replicate s .non))
  dD : H0 D = none
  sm : Same H0 H
theorem RowsNone.zero {H0 : Hp} {D : Addr} {s : Nat} (h : H0 D = none) : RowsNone H0 (upd H0 D (.lst [])) D [] 0 s := ⟨upd_same, rfl, List.nodup_nil, by simp, by simp, by simp, h, same_new h⟩
theorem RowsNone.snoc {H0 H : Hp} {D l fo : Addr} {os : List Addr} {n s : Nat} {o1 : HO} (R : RowsNone H0 H D os n s) (h1 : H l = none) (h2 : (upd H l o1) fo = none) :
    RowsNone H0 (upd (upd (upd H l o1) fo (.lst (List.replicate s .non))) D (.lst (os.map V.ref ++ [.ref fo]))) D (os ++ [fo]) (n + 1) s := by
  have hfo : H fo = none := Same.free (same_new h1) h2
  have hfoD : fo ≠ D := (ne_of_none R.lst hfo).symm
  have hfoo : fo ∉ os := fun z => by
    rw [R.row fo z] at hfo
    cases hfo
  have S1 : Same H (upd (upd H l o1) fo (.lst (List.replicate s .non))) := (same_new h1).trans (same_new h2)
  refine ⟨by rw [upd_same, List.map_append] <;> rfl, by rw [List.length_append, R.len] <;> rfl, List.nodup_append.mpr ⟨R.nd, by simp, fun a ha b hb => ?_⟩, fun z => ?_, fun o ho => ?_, fun o ho => ?_, R.dD, fun b o e => ?_⟩
  · rw [List.mem_singleton.mp hb]
    exact fun z => hfoo (z ▸ ha)
  · rcases List.mem_append.mp z with z | z
    · exact R.nD z
    · exact hfoD (List.mem_singleton.mp z).symm
  · rcases List.mem_append.mp ho with z | z
    · exact R.new o z
    · rw [List.mem_singleton.mp z]
      exact R.sm.free hfo
  · rcases List.mem_append.mp ho with z | z
    · rw [upd_ne (fun (e : o = D) => R.nD (by rw [← e]; exact z))]
      exact S1 _ _ (R.row o z)
    · rw [List.mem_singleton.mp z, upd_ne hfoD, upd_same]
  · rw [upd_ne (ne_of_none e R.dD)]
    exact S1 _ _ (R.sm _ _ e)
section
variable {H H' : Hp} {os : List Addr} {l s i : Int} {c : List Call} {done done' : Call → Prop} {cv : Int → Int → V}
theorem GridAt.congr {mk : List V → HO} (h : GridAt mk H os l s c done cv) (e : ∀ x ∈ c, done' x ↔ done x) : GridAt mk H os l s c done' cv := by
  refine ⟨h.1, fun a o ho => ?_⟩
  obtain ⟨xs, h1, h2, h3⟩ := h.2 a o ho
  exact ⟨xs, h1, h2, fun j hj => ⟨fun y hy hd => (h3 j hj).1 y hy ((e y hy).mp hd), fun hn => (h3 j hj).2 fun y hy hd => hn y hy ((e y hy).mpr hd)⟩⟩
theorem GridAt.keep {mk : List V → HO} (h : GridAt mk H os l s c done cv) (e : ∀ o ∈ os, ∀ u, H o = some u → H' o = some u) : GridAt mk H' os l s c done cv := by
  refine ⟨h.1, fun a o ho => ?_⟩
  obtain ⟨xs, h1, h2, h3⟩ := h.2 a o ho
  exact ⟨xs, e o (List.mem_of_getElem? ho) _ h1, h2, h3⟩
theorem grid_none {H0 : Hp} {D : Addr} (R : RowsNone H0 H D os l.toNat s.toNat) (hl : 0 ≤ l) (hs : 0 ≤ s) (hd : ∀ e ∈ c, ¬ done e) : GridAt .lst H os l s c done cv := by
  refine ⟨by have := R.len; omega, fun a o ho => ⟨_, R.row o (List.mem_of_getElem? ho), by rw [List.length_replicate]; omega, fun j hj => ⟨fun e he q => (hd e he q).elim, fun _ => ?_⟩⟩⟩
  rw [List.getElem?_replicate, if_pos (by omega)]
theorem grid_put (G : Good i s l c) (hs : 1 ≤ s ∧ s ≤ 3) {e : Call} {o : Addr} {xs : List V} (h : GridAt .lst H os l s c done cv) (nd : os.Nodup) (he : e ∈ c) (ho : os[(e.goal / s).toNat]? = some o) (hx : H o = some (.lst xs)) :
    GridAt .lst (upd H o (.lst (xs.set (e.goal % s).toNat (cv (e.one / s) (e.one % s))))) os l s c (fun x => done x ∨ x = e) cv := by
  have hb := G.bd e he
  have hdm : e.goal = (e.goal / s) * s + e.goal % s := by
    have := Int.mul_ediv_add_emod e.goal s
    have h2 : s * (e.goal / s) = (e.goal / s) * s := Int.mul_comm _ _
    omega
  have h0 : 0 ≤ e.goal / s := Int.ediv_nonneg hb.2.2.1 (by omega)
  have h1 : 0 ≤ e.goal % s := Int.emod_nonneg _ (by omega)
  have h2 : e.goal % s < s := Int.emod_lt_of_pos _ (by omega)
  refine ⟨h.1, fun a o' ho' => ?_⟩
  obtain ⟨ys, q1, q2, q3⟩ := h.2 a o' ho'
  by_cases ha : a = (e.goal / s).toNat
  · subst ha
    rw [ho] at ho'
    obtain rfl := Option.some.inj ho'
    rw [hx] at q1
    obtain rfl : xs = ys := by
      injection Option.some.inj q1
    refine ⟨_, upd_same, by rw [List.length_set]; exact q2, fun j hj => ?_⟩
    by_cases hje : j = (e.goal % s).toNat
    · subst hje
      have ey : e.goal = ((e.goal / s).toNat : Int) * s + ((e.goal % s).toNat : Int) := by
        rw [Int.toNat_of_nonneg h0, Int.toNat_of_nonneg h1]
        exact hdm
      rw [show (xs.set (e.goal % s).toNat (cv (e.one / s) (e.one % s)))[(e.goal % s).toNat]? = some (cv (e.one / s) (e.one % s)) from List.getElem?_set_self (by omega)]
      exact ⟨fun y hy hd hg => by rw [G.goalEq hy he (hg.trans ey.symm)], fun hn => (hn e he (.inr rfl) ey).elim⟩
    · rw [List.getElem?_set_ne (Ne.symm hje)]
      have ney : e.goal ≠ ((e.goal / s).toNat : Int) * s + (j : Int) := by
        rw [Int.toNat_of_nonneg h0]
        omega
      refine ⟨fun y hy hd hg => ?_, fun hn => (q3 j hj).2 fun y hy hd => hn y hy (.inl hd)⟩
      rcases hd with hd | rfl
      · exact (q3 j hj).1 y hy hd hg
      · exact (ney hg).elim
  · have noo : o' ≠ o := fun z => ha (nd_ix nd (z ▸ ho') ho)
    refine ⟨ys, by rw [upd_ne noo]; exact q1, q2, fun j hj => ?_⟩
    have ney : e.goal ≠ (a : Int) * s + (j : Int) := fun z => by
      have e1 : e.goal / s = (a : Int) := by
        rw [z]
        have : ((a : Int) * s + (j : Int)) / s = (a : Int) + (j : Int) / s := by rw [Int.add_comm, Int.add_mul_ediv_right _ _ (by omega)] <;> omega
        rw [this, Int.ediv_eq_zero_of_lt (by omega) hj]
        omega
      omega
    refine ⟨fun y hy hd hg => ?_, fun hn => (q3 j hj).2 fun y hy hd => hn y hy (.inl hd)⟩
    rcases hd with hd | rfl
    · exact (q3 j hj).1 y hy hd hg
    · exact (ney hg).elim
end
section
variable {P : Program} {w : World} {K : PySem.W.Frag} {mg : Str → Option Value} {base : Heap} {CC CE BS Pt f fJ fW fR : Addr} {fd fdJ fdW fdR : FuncData}
def spFrame (K : PySem.W.Frag) (CE CC BS Pt : Addr) : Sp := fun vs H Q E => ∃ (x n d ca : Addr) (l s i : Int) (c : List Call), vs = [.ref x, .ref ca] ∧ ExAt CE CC H x n d l s i c ∧
  ((∃ (rows : List Addr) (cv : Int → Int → V), Good i s l c ∧ CellsAt K H ca rows l s cv ∧ GxR.TabG H Pt ∧
      ∀ (p : Addr) (ts : List Addr) (H' : Hp), SameB Pt H H' → GxR.TabG H' Pt → H' p = some (.tup (ts.map V.ref)) → GridAt .tup H' ts l s c (fun _ => True) cv → Q (.ref p) H') ∨
   (SqL K H ca [] ∧ E (.ref BS) none H))
theorem scFrame : FnScope ["self", "cells", "line", "out", "number", "joined", "goal", "place", "row"] ["self", "cells"] (defScope sFrame) := ⟨rfl, rfl, rfl, by decide +kernel, rfl, by decide +kernel, by decide +kernel⟩
theorem ok_frame (F : FnS K "frame" "Exchange.frame" sFrame f fd) (T : Txt K mg CC CE) (TS : ExcT K mg "BadSize" BS) (TB : ∀ c, fd.code = .ref c → GxR.TabB base mg c Pt)
    (GJ : FnOk P w K mg base CX0 2 fJ fdJ ["self", "number"] (spJoins CE CC)) (bJ : Binds K fdJ ["self", "number"] []) (mJ : Meth K CE "joins" fJ)
    (GW : FnOk P w K mg base CX0 2 fW fdW ["self", "line"] (spWrites CE CC)) (bW : Binds K fdW ["self", "line"] []) (mW : Meth K CE "writes" fW)
    (GR : FnOk P w K mg base CX0 2 fR fdR ["self", "line"] (spReads CE CC)) (bR : Binds K fdR ["self", "line"] []) (mR : Meth K CE "reads" fR) :
    FnOk P w K mg base (L2.CX P w) 3 f fd ["self", "cells"] (spFrame K CE CC BS Pt) := by
  refine okC F scFrame (fun vs H Q E h => ?_) (fun cd A outer s0 H vs Q E hcd hr h => ?_)
  · obtain ⟨x, n, d, ca, l, s, i, c, rfl, _⟩ := h
    rfl
  · obtain ⟨x, n, d, ca, l, s, i, c, rfl, X, k⟩ := h
    obtain ⟨⟨dx, h1⟩, N⟩ := id X
    have hb := N.bd
    have TBc := TB cd hcd
    have hnl : (defScope sFrame).names.lookup ("self" : Str) ≠ some NameKind.local := by decide +kernel
    refine ⟨_, pss_cons (ps_if (PW.pt (pw_or (pt_cmpR op_ne (pe_callB call_len_seq (by rfl) T.gLen PySem.boot_len (pa_cons (pv 1) pa_nil)) (pe_fld (pv 0) rfl) (nomark _))
          (pw_or1 (pt_val (pe_anyR (i := 0) hr (by rfl) T.gAny TBc rfl ⟨⟨rfl, rfl, by decide +kernel, rfl, rfl, gen_free (se := "self") (sc := defScope sFrame) (by decide +kernel) (by decide +kernel)⟩, rfl, rfl⟩ (by decide +kernel) rfl (Or.inr (Or.inl rfl)) hnl T.gLen (pv 1) (fun _ => rfl) (by decide) (by decide) (by decide) (fun _ => rfl))))))
        (pss_one (ps_raise rfl (takes_of rfl rfl rfl rfl) (pmk_own PySem.F.excBase_ValueError TS.xC TS.gC TS.kC (raises_own TS.bC TS.tC) rfl))) pss_nil)
      (PSs.nox (pss_cons (ps_setLc (i := 3) (own := [("line", 2)]) (g := gName 2) (tt := tYes) (te := tOp rRep (tLst (tCons (tC .non) tNil)) (tFld K (tVar 0) "slots")) rfl scFrame.nd rfl rfl (sw_true rfl rfl rfl (by decide +kernel))
          (pi_range1 rfl T.gRange (pa_cons (pe_fld (pv 0) rfl) pa_nil)) (blkOk_by (N := ["self", "cells", "line", "out", "number", "joined", "goal", "place", "row"]) (sc := defScope sFrame) (by decide +kernel))
          (fun _ _ _ _ _ => pg_name (i := 2) scFrame.nd rfl (Or.inl rfl)) (fun _ _ _ _ _ => pts_nil) (fun _ _ _ _ _ => pe_op op_rep (pe_lst (pa_cons pe_non pa_nil)) (pe_fld (pv 0) rfl)))
        (pss_cons (ps_for PassesOwn.never rfl (pi_range1 rfl T.gRange (pa_cons (pe_fld (pv 0) rfl) pa_nil)) (pg_name (i := 4) scFrame.nd rfl (Or.inl rfl))
          (pss_cons (ps_set (i := 5) scFrame.nd rfl (Or.inl rfl) (pe_meth (pv 0) T.clE mJ GJ hr bJ .nil pass0 (pa_cons (pv 4) pa_nil)))
          (pss_one (ps_for PassesOwn.never rfl (pi_enumT rfl T.gEnum (pa_cons (pv 5) pa_nil)) (pg_tup rfl (pgs_cons (pg_name (i := 2) scFrame.nd rfl (Or.inl rfl)) (pgs_cons (pg_name (i := 6) scFrame.nd rfl (Or.inl rfl)) pgs_nil)))
            (pss_one (ps_if (pt_cmpR op_notN (pv 6) pe_non (nomark _))
              (pss_cons (ps_set (i := 7) scFrame.nd rfl (Or.inl rfl) (pe_ix ix_tup (pe_meth (pv 0) T.clE mW GW hr bW .nil pass0 (pa_cons (pv 6) pa_nil)) (pv 4) (fun _ _ => rfl)))
              (pss_one (ps_asg (pe_ix ix_list (pe_ix ix_list (pv 1) (pv 2) (fun _ _ => rfl)) (pe_ix ix_tup (pe_meth (pv 0) T.clE mR GR hr bR .nil pass0 (pa_cons (pv 2) pa_nil)) (pv 4) (fun _ _ => rfl)) (fun _ _ => rfl))
                (pg_sub (pe_ix ix_list (pv 3) (pv 6) (fun _ _ => rfl)) (pv 7) set_list)))) pss_nil))))))
        (pss_one (ps_ret (pe_callTy call_tuple_of (by rfl) T.gTuple (by decide +kernel) (pa_cons (pe_lc (own := [("row", 8)]) (g := gName 8) (tt := tYes)
          (te := tCB (fun xs H Q => ∃ p ys, xs = [.ref p] ∧ ((SqL K H p ys ∧ ∀ l, H l = none → Q (.ref l) (upd H l (.tup ys))) ∨ (SqT K H p ys ∧ Q (.ref p) H))) (tCons (tVar 8) tNil)) rfl scFrame.nd (pi_list (pv 3))
          (blkOk_by (N := ["self", "cells", "line", "out", "number", "joined", "goal", "place", "row"]) (sc := defScope sFrame) (by decide +kernel)) (fun _ _ _ _ _ => pg_name (i := 8) scFrame.nd rfl (Or.inl rfl)) (fun _ _ _ _ _ => pts_nil)
          (fun _ _ _ _ _ => pe_callTy call_tuple_of (by rfl) T.gTuple (by decide +kernel) (pa_cons (pv 8) pa_nil))) pa_nil))))))), ?_⟩
    rcases k with ⟨rows, cv, G, ⟨hca, hrl, hrs, hcv⟩, hTG, k⟩ | ⟨hca, k⟩
    · refine ⟨_, rfl, ca, _, rfl, .inl hca, ?_⟩
      refine ⟨_, rfl, x, CE, dx, _, _, rfl, h1, T.clE, T.nLin, xf_lines _ _ _ _, rfl, _, rfl, ?_⟩
      rw [List.length_map, hrl, decide_eq_true rfl]
      refine iteF ⟨_, rfl, ca, rows, rfl, ⟨hca, x, CE, dx, _, s, rfl, h1, T.clE, T.nSlo, xf_slots _ _ _ _, hrs⟩, hTG, fun H1 hT1 => ⟨_, rfl, iteF ?_⟩⟩
      have B1 : SameB Pt H H1 := fun b o hbP e => by
        rw [hT1.2 b hbP]
        exact e
      have hTG1 : GxR.TabG H1 Pt := hT1.1
      obtain ⟨ps0, hP0, hok0⟩ := id hTG
      have X1 : ExAt CE CC H1 x n d l s i c := X.ext (B1.extN hP0)
      obtain ⟨dx1, hx1⟩ := X1.ob
      have hca1 : SqL K H1 ca (rows.map V.ref) := SqL.sameB B1 hP0 hca
      have hcv1 : ∀ (a b : Nat), (a : Int) < l → (b : Int) < s → ∃ r xs, rows[a]? = some r ∧ SqL K H1 r xs ∧ xs[b]? = some (cv a b) := fun a b ha hb2 => by
        obtain ⟨r, xs, q1, q2, q3⟩ := hcv a b ha hb2
        exact ⟨r, xs, q1, SqL.sameB B1 hP0 q2, q3⟩
      -- out = [[None] * self.slots for line in range(self.lines)]
      refine ⟨_, rfl, x, CE, dx1, _, _, rfl, hx1, T.clE, T.nLin, xf_lines _ _ _ _, l, rfl, by omega, by omega, fun D hD => ?_⟩
      refine lc_range (lo := 0) (n := l.toNat) (fun j Hc => ∃ os, RowsNone H1 Hc D os j s.toNat) ⟨[], .zero hD⟩ ?_ ?_
      · rintro j Hc hj ⟨os, R⟩
        refine ⟨rfl, (by show 1 ≤ sizeLine; decide), fun l1 hl1 => ?_⟩
        refine ⟨_, rfl, x, CE, dx1, _, _, rfl, (same_new hl1) _ _ (R.sm _ _ hx1), T.clE, T.nSlo, xf_slots _ _ _ _, l1, s, _, rfl, rfl, upd_same, by omega, by omega, (by show 1 * s.toNat ≤ sizeLine; exact Nat.le_of_lt (small1000 (by omega))), fun fo hfo => ?_⟩
        rw [rep_none]
        have Rn := R.snoc hl1 hfo
        have hlD : (upd (upd Hc l1 (.lst [.non])) fo (.lst (List.replicate s.toNat .non))) D = some (.lst (os.map V.ref)) := (same_new hl1).trans (same_new hfo) _ _ R.lst
        exact ⟨_, hlD, small1000 (by rw [List.length_map, R.len]; omega), _, Rn⟩
      rintro Hm ⟨os, R⟩
      -- for number in range(self.inner)
      refine ⟨_, rfl, x, CE, dx1, _, _, rfl, R.sm _ _ hx1, T.clE, T.nInn, xf_inner _ _ _ _, i, rfl, by omega, by omega, ?_⟩
      refine for_range (lo := 0) (n := i.toNat) (fun j σ Hc => ∃ (v2 v4 v5 v6 v7 v8 : Option V), σ = [some (.ref x), some (.ref ca), v2, some (.ref D), v4, v5, v6, v7, v8] ∧ Same H1 Hc ∧ Hc D = some (.lst (os.map V.ref)) ∧
        GridAt .lst Hc os l s c (fun e => e.mid < (j : Int)) cv) ⟨none, none, none, none, none, none, rfl, R.sm, R.lst, grid_none R (by omega) (by omega) fun e he q => ?_⟩ ?_ ?_
      · have := G.bd e he
        have q : e.mid < ((0 : Nat) : Int) := q
        omega
      · rintro j σ Hc hj ⟨v2, v4, v5, v6, v7, v8, rfl, Sc, hD1, Gr⟩
        have hz : (0 : Int) + (j : Int) = (j : Int) := by omega
        rw [hz]
        refine ⟨_, rfl, x, dx1, _, rfl, Sc _ _ hx1, xf_no _ _ _ _ (by decide +kernel), ?_⟩
        refine ⟨_, rfl, x, n, d, l, s, i, c, (j : Int), rfl, X1.same Sc, G, fun xs p H2 Fl S2 hp hp2 => ?_⟩
        have Sc2 : Same H1 H2 := Sc.trans S2
        have hGr2 : GridAt .lst H2 os l s c (fun e => e.mid < (j : Int)) cv := Gr.keep fun o _ u hu => S2 _ _ hu
        have hxl : xs.length = l.toNat := Fl.len
        -- for line, goal in enumerate(joined)
        refine ⟨_, rfl, p, xs, rfl, SqT.of hp2, for_it (walk_enumT (K := K) (a := p) (xs := xs)) (fun k σ Hc => ∃ (v2 v6 v7 v8 : Option V), σ = [some (.ref x), some (.ref ca), v2, some (.ref D), some (.int j), some (.ref p), v6, v7, v8] ∧ Same H1 Hc ∧ Hc D = some (.lst (os.map V.ref)) ∧ Hc p = some (.tup xs) ∧
          GridAt .lst Hc os l s c (fun e => e.mid < (j : Int) ∨ (e.mid = (j : Int) ∧ e.one / s < (k : Int))) cv) ⟨v2, v6, v7, v8, rfl, Sc2, S2 _ _ hD1, hp2, hGr2.congr fun e he => ⟨fun q => ?_, fun q => .inl q⟩⟩ (fun k σ Hc _ ⟨_, _, _, _, _, _, _, q, _⟩ => SqT.of q) ?_ ?_⟩
        · rcases q with q | ⟨_, q⟩
          · exact q
          · have q : e.one / s < ((0 : Nat) : Int) := q
            have := div_lt (G.bd e he).1 (by have := (G.bd e he).2.1; exact this) ⟨hb.1, hb.2.1⟩
            omega
        · rintro k y σ Hc Hc' hk ⟨v2, v6, v7, v8, rfl, Sc3, hD3, hp3, Gr3⟩ ⟨T, kx, gv, rfl, hT, rfl, hkx, hgv⟩
          have hkx := Option.some.inj hkx
          subst hkx
          have ST : Same Hc (upd Hc T (.tup [.int (k : Nat), gv])) := same_new hT
          have Sc4 : Same H1 (upd Hc T (.tup [.int (k : Nat), gv])) := Sc3.trans ST
          have Gr4 := Gr3.keep (H' := upd Hc T (.tup [.int (k : Nat), gv])) fun o _ u hu => ST _ _ hu
          have hD4 := ST _ _ hD3
          have hp4 := ST _ _ hp3
          have hkl : (k : Int) < l := by omega
          have hgv : xs[k]? = some gv := hgv
          refine ⟨T, _, rfl, SqT.of upd_same, rfl, _, _, rfl, _, _, rfl, rfl, ?_⟩
          generalize upd Hc T (.tup [.int (k : Nat), gv]) = Hd at Sc4 Gr4 hD4 hp4 ⊢
          refine ⟨_, rfl, rfl, _, rfl, ?_⟩
          by_cases hex : ∃ e ∈ c, e.mid = (j : Int) ∧ (e.one / s).toNat = k
          · obtain ⟨e, he, hej, hek⟩ := hex
            have hbe := G.bd e he
            have hdv := div_lt hbe.1 hbe.2.1 ⟨hb.1, hb.2.1⟩
            have hdg := div_lt hbe.2.2.1 hbe.2.2.2.1 ⟨hb.1, hb.2.1⟩
            have m1 : 0 ≤ e.goal % s := Int.emod_nonneg _ (by omega)
            have m2 : e.goal % s < s := Int.emod_lt_of_pos _ (by omega)
            have m3 : 0 ≤ e.one % s := Int.emod_nonneg _ (by omega)
            have m4 : e.one % s < s := Int.emod_lt_of_pos _ (by omega)
            have hone : e.one / s = (k : Int) := by omega
            have hgv2 := Fl.yes e he hej
            rw [hek, hgv] at hgv2
            obtain rfl := Option.some.inj hgv2
            have hgn : decide (V.int (e.goal / s) = V.non) = false := decide_eq_false (by intro z; cases z)
            rw [hgn]
            refine iteT ?_
            -- place = self.writes(goal)[number]
            refine ⟨_, rfl, x, dx1, _, rfl, Sc4 _ _ hx1, xf_no _ _ _ _ (by decide +kernel), ?_⟩
            refine ⟨_, rfl, x, n, d, l, s, i, c, e.goal / s, rfl, X1.same Sc4, G, fun ys q H5 Fw S5 hq hq2 => ?_⟩
            have hw := Fw.yes e he rfl
            refine ⟨_, rfl, q, ys, (j : Int), .int (e.goal % s), rfl, rfl, SqT.of hq2, at_of (j := e.mid.toNat) (by omega) hw, ?_⟩
            -- out[goal][place] = cells[line][self.reads(line)[number]]
            obtain ⟨r, rs, hr1, hr2, hr3⟩ := hcv1 k (e.one % s).toNat hkl (by omega)
            have Sc5 : Same H1 H5 := Sc4.trans S5
            refine ⟨_, rfl, _, rfl, ca, rows.map V.ref, (k : Int), .ref r, rfl, rfl, sqL_same hca1 Sc5, at_of (j := k) rfl (by rw [List.getElem?_map, hr1] <;> rfl), ?_⟩
            refine ⟨_, rfl, x, dx1, _, rfl, Sc5 _ _ hx1, xf_no _ _ _ _ (by decide +kernel), ?_⟩
            refine ⟨_, rfl, x, n, d, l, s, i, c, (k : Int), rfl, X1.same Sc5, G, fun zs q6 H6 Fr S6 hq6 hq7 => ?_⟩
            have hrd := Fr.yes e he hone
            have Sc6 : Same H1 H6 := Sc5.trans S6
            refine ⟨_, rfl, q6, zs, (j : Int), .int (e.one % s), rfl, rfl, SqT.of hq7, at_of (j := e.mid.toNat) (by omega) hrd, ?_⟩
            refine ⟨r, rs, e.one % s, cv (k : Int) (e.one % s), rfl, rfl, sqL_same hr2 Sc6, at_of (j := (e.one % s).toNat) (by omega) (by rw [hr3, Int.toNat_of_nonneg m3]), ?_⟩
            -- the store
            have hD6 := S6 _ _ (S5 _ _ hD4)
            have hp6 := S6 _ _ (S5 _ _ hp4)
            have Gr6 := Gr4.keep (H' := H6) fun o _ u hu => S6 _ _ (S5 _ _ hu)
            have hol : (e.goal / s).toNat < os.length := by have := Gr6.1; omega
            obtain ⟨o, ho⟩ : ∃ o, os[(e.goal / s).toNat]? = some o := ⟨_, List.getElem?_eq_getElem hol⟩
            have hom : o ∈ os := List.mem_of_getElem? ho
            obtain ⟨us, hu1, hu2, _⟩ := Gr6.2 _ o ho
            refine ⟨_, rfl, _, rfl, D, os.map V.ref, e.goal / s, .ref o, rfl, rfl, SqL.of hD6, at_of (j := (e.goal / s).toNat) (by omega) (by rw [List.getElem?_map, ho] <;> rfl), ?_⟩
            refine ⟨_, rfl, o, us, e.goal % s, (e.goal % s).toNat, rfl, rfl, hu1, ixN_nat m1 (by omega), ?_⟩
            have Gn := grid_put G ⟨hb.1, hb.2.1⟩ Gr6 R.nd he ho hu1
            refine ⟨_, _, _, v8, rfl, fun b w hw => ?_, ?_, ?_, ?_⟩
            · rw [upd_ne (ne_of_none hw (R.new o hom))]
              exact Sc6 _ _ hw
            · rw [upd_ne (fun z : D = o => R.nD (z ▸ hom))]
              exact hD6
            · rw [upd_ne (ne_of hp6 hu1 (by intro z; cases z))]
              exact hp6
            · rw [hone] at Gn
              refine Gn.congr fun y hy => ?_
              constructor
              · intro h9
                by_cases hye : y = e
                · exact .inr hye
                · have hyk : ¬ (y.mid = (j : Int) ∧ y.one / s = (k : Int)) := fun z => hye (G.inn hy he (z.2.trans hone.symm) (z.1.trans hej.symm))
                  exact .inl (by omega)
              · rintro (h9 | rfl)
                · omega
                · omega
          · have hno := Fl.no k (by omega) fun e he hej hek => hex ⟨e, he, hej, hek⟩
            rw [hgv] at hno
            have hgn : decide (gv = V.non) = true := decide_eq_true (Option.some.inj hno)
            rw [hgn]
            refine iteF ⟨_, _, v7, v8, rfl, Sc4, hD4, hp4, Gr4.congr fun e he => ?_⟩
            have hdv := div_lt (G.bd e he).1 (G.bd e he).2.1 ⟨hb.1, hb.2.1⟩
            have : ¬ (e.mid = (j : Int) ∧ e.one / s = (k : Int)) := fun z => hex ⟨e, he, z.1, by omega⟩
            omega
        · rintro σ Hc ⟨v2, v6, v7, v8, rfl, Sc3, hD3, hp3, Gr3⟩
          refine ⟨v2, _, _, v6, v7, v8, rfl, Sc3, hD3, Gr3.congr fun e he => ?_⟩
          have := (G.bd e he)
          have := div_lt this.1 this.2.1 ⟨hb.1, hb.2.1⟩
          omega
      · rintro σ Hc ⟨v2, v4, v5, v6, v7, v8, rfl, Sc, hD1, Gr⟩
        -- return tuple([tuple(row) for row in out])
        refine ⟨_, rfl, D, rfl, ⟨_, SqL.of hD1⟩, fun D2 hD2 => ?_⟩
        refine lc_list (K := K) (a := D) (xs := os.map V.ref) (fun k Hd => Same Hc Hd ∧ ∃ ts : List Addr, Hd D2 = some (.lst (ts.map V.ref)) ∧ ts.length = k ∧ ∀ (a : Nat) t o, ts[a]? = some t → os[a]? = some o → ∃ xs, Hc o = some (.lst xs) ∧ Hd t = some (.tup xs)) ⟨same_new hD2, [], upd_same, rfl, fun a t o h => by simp at h⟩ (fun k Hd _ ⟨Sd, _⟩ => SqL.of (Sd _ _ hD1)) ?_ ?_
        · rintro k y Hd hk ⟨Sd, ts, ht1, ht2, ht3⟩
          obtain ⟨o, ho, rfl⟩ := map_get hk
          obtain ⟨xs, q1, q2, _⟩ := Gr.2 k o ho
          refine ⟨rfl, _, rfl, o, xs, rfl, .inl ⟨SqL.of (Sd _ _ q1), fun t ht => ?_⟩⟩
          have htD : t ≠ D2 := (ne_of_none ht1 ht).symm
          have hl : (upd Hd t (.tup xs)) D2 = some (.lst (ts.map V.ref)) := by
            rw [upd_ne htD.symm]
            exact ht1
          refine ⟨_, hl, small1000 (by rw [List.length_map]; have := (List.getElem?_eq_some_iff.mp ho).1; have := Gr.1; omega), fun b u hu => ?_, ts ++ [t], by rw [upd_same, List.map_append] <;> rfl, by rw [List.length_append, ht2] <;> rfl, fun a t' o' h1' h2' => ?_⟩
          · rw [upd_ne (ne_of_none hu hD2), upd_ne (ne_of_none (Sd _ _ hu) ht)]
            exact Sd _ _ hu
          · by_cases hak : a < k
            · rw [List.getElem?_append_left (by omega)] at h1'
              obtain ⟨xs', r1, r2⟩ := ht3 a t' o' h1' h2'
              refine ⟨xs', r1, ?_⟩
              rw [upd_ne (ne_of r2 ht1 (by intro z; cases z)), upd_ne (ne_of_none r2 ht)]
              exact r2
            · have hak2 : a = k := by
                have := (List.getElem?_eq_some_iff.mp h1').1
                rw [List.length_append, List.length_singleton] at this
                omega
              subst hak2
              rw [List.getElem?_append_right (by omega), ht2, Nat.sub_self] at h1'
              obtain rfl : t = t' := Option.some.inj h1'
              rw [ho] at h2'
              obtain rfl := Option.some.inj h2'
              refine ⟨xs, q1, ?_⟩
              rw [upd_ne htD, upd_same]
        rintro Hd ⟨Sd, ts, ht1, ht2, ht3⟩
        refine ⟨D2, ts.map V.ref, rfl, .inl ⟨SqL.of ht1, fun p hp => ?_⟩⟩
        have Sp : Same H1 (upd Hd p (.tup (ts.map V.ref))) := (Sc.trans Sd).trans (same_new hp)
        rw [List.length_map] at ht2
        refine k p ts _ (B1.same Sp) ?_ upd_same ⟨by rw [ht2]; exact Gr.1, fun a t hat => ?_⟩
        · obtain ⟨ps, g1, g2⟩ := hTG1
          exact ⟨ps, Sp _ _ g1, g2⟩
        · obtain ⟨o, ho⟩ : ∃ o, os[a]? = some o := ⟨_, List.getElem?_eq_getElem (by have := (List.getElem?_eq_some_iff.mp hat).1; omega)⟩
          obtain ⟨xs, r1, r2⟩ := ht3 a t o hat ho
          obtain ⟨xs', q1, q2, q3⟩ := Gr.2 a o ho
          rw [r1] at q1
          obtain rfl : xs = xs' := by injection Option.some.inj q1
          refine ⟨xs, (same_new hp) _ _ r2, q2, fun b hb2 => ?_⟩
          have h9 := q3 b hb2
          refine ⟨fun y hy _ hg => h9.1 y hy (by have := (G.bd y hy).2.2.2.2; show y.mid < ((i.toNat : Nat) : Int); omega) hg, fun hn => h9.2 fun y hy _ => hn y hy trivial⟩
    · refine ⟨_, rfl, ca, _, rfl, .inl hca, ?_⟩
      refine ⟨_, rfl, x, CE, dx, _, _, rfl, h1, T.clE, T.nLin, xf_lines _ _ _ _, rfl, _, rfl, ?_⟩
      rw [decide_eq_false (by show ¬ V.int (0 : Nat) = V.int l; intro z; have := V.int.inj z; omega)]
      exact iteT (iteT (B := True) k)
end
end Clx
/-! ## K15 -/
set_option Elab.async false
set_option linter.all false
set_option maxRecDepth 100000
set_option maxHeartbeats 4000000
set_option pp.maxSteps 1500
set_option pp.deepTerms false
/-! ### inner_needed, wait_of; the dice -/
namespace Clx
open PySem PySem.Spec PyProof.Rows L2
section
variable {P : Program} {w : World} {K : PySem.W.Frag} {mg : Str → Option Value} {base : Heap} {CC CE f fD : Addr} {fd fdD : FuncData}
def spNeeded : Sp := fun vs H Q _ => ∃ (s : Int) (b : Bool), vs = [.int s, .bl b] ∧ Q (.int (if b then s else 2 * s - 1)) H
theorem scNeeded : FnScope ["slots", "moving"] ["slots", "moving"] (defScope sNeeded) := ⟨rfl, rfl, rfl, by decide +kernel, rfl, by decide +kernel, by decide +kernel⟩
theorem ok_needed (F : FnS K "inner_needed" "inner_needed" sNeeded f fd) : FnOk P w K mg base CX0 1 f fd ["slots", "moving"] spNeeded := by
  refine F.ok scNeeded (fun vs H Q E h => ?_) (fun cdv A outer s0 H vs Q E hr h => ?_)
  · obtain ⟨s, b, rfl, _⟩ := h
    rfl
  · obtain ⟨s, b, rfl, k⟩ := h
    refine ⟨_, PSs.nox (pss_one (ps_ret (pe_ifExp (pt_val (pv 1)) (pv 0) (pe_op op_sub (pe_op op_mul pe_int (pv 0)) pe_int)))), ?_⟩
    refine ⟨_, rfl, b, rfl, ?_⟩
    cases b with
    | true => exact iteT ⟨_, rfl, k⟩
    | false => exact iteF ⟨_, rfl, _, _, rfl, rfl, .inl ⟨by omega, by omega⟩, _, _, rfl, rfl, k⟩
def spWait : Sp := fun vs H Q _ => ∃ (a b c n : Int), vs = [.int a, .int b, .int c, .int n] ∧ 0 < n ∧ Q (.int ((b - a) % n + (c - b) % n)) H
theorem scWait : FnScope ["slot", "inner_slot", "goal", "slots"] ["slot", "inner_slot", "goal", "slots"] (defScope sWait) := ⟨rfl, rfl, rfl, by decide +kernel, rfl, by decide +kernel, by decide +kernel⟩
theorem ok_wait (F : FnS K "wait_of" "wait_of" sWait f fd) : FnOk P w K mg base CX0 1 f fd ["slot", "inner_slot", "goal", "slots"] spWait := by
  refine F.ok scWait (fun vs H Q E h => ?_) (fun cdv A outer s0 H vs Q E hr h => ?_)
  · obtain ⟨a, b, c, n, rfl, _⟩ := h
    rfl
  · obtain ⟨a, b, c, n, rfl, hn, k⟩ := h
    refine ⟨_, PSs.nox (pss_one (ps_ret (pe_op op_add (pe_op op_mod (pe_op op_sub (pv 1) (pv 0)) (pv 3)) (pe_op op_mod (pe_op op_sub (pv 2) (pv 1)) (pv 3))))), ?_⟩
    exact ⟨_, rfl, _, rfl, _, _, rfl, rfl, _, rfl, _, _, rfl, rfl, hn, _, rfl, _, rfl, _, _, rfl, rfl, _, rfl, _, _, rfl, rfl, hn, _, _, rfl, rfl, k⟩
/-! #### the dice -/
def DiceAt (H : Hp) (p : Addr) : Prop := ∃ a b c : Int, H p = some (.lst [.int a, .int b, .int c])
def spDice : Sp := fun vs H Q _ => ∃ (z : Int), vs = [.int z] ∧ ∀ (a b c : Int) (p : Addr), H p = none → Q (.ref p) (upd H p (.lst [.int a, .int b, .int c]))
theorem scDice : FnScope ["_law_cell"] ["_law_cell"] (defScope sDice) := ⟨rfl, rfl, rfl, by decide +kernel, rfl, by decide +kernel, by decide +kernel⟩
theorem ok_dice (F : FnS K "_law_dice" "_law_dice" sDice f fd) (T : Txt K mg CC CE) : FnOk P w K mg base CX0 1 f fd ["_law_cell"] spDice := by
  refine F.ok scDice (fun vs H Q E h => ?_) (fun cdv A outer s0 H vs Q E hr h => ?_)
  · obtain ⟨z, rfl, _⟩ := h
    rfl
  · obtain ⟨z, rfl, k⟩ := h
    refine ⟨_, PSs.nox (pss_cons (ps_if (pt_chain op_lt op_lt (pe_op op_sub pe_int pe_int) (pv 0) pe_int)
        (pss_one (ps_ret (pe_lst (pa_cons (pe_callB call_abs (by rfl) T.gAbs (by decide +kernel) (pa_cons (pv 0) pa_nil)) (pa_cons pe_int (pa_cons pe_int pa_nil)))))) pss_nil)
      (pss_one (ps_ret (pe_lst (pa_cons (pv 0) (pa_cons (pe_op op_add pe_int (pe_op op_mod (pe_callTy call_int1 (by rfl) T.gInt boot_int (pa_cons (pv 0) pa_nil)) pe_int))
        (pa_cons (pe_callTy call_int1 (by rfl) T.gInt boot_int (pa_cons (pe_cmpR op_ge (pv 0) (pe_op op_pow pe_int pe_int) (nomark _)) pa_nil)) pa_nil))))))), ?_⟩
    refine ⟨_, _, rfl, rfl, _, rfl, _, _, rfl, rfl, _, rfl, ?_⟩
    by_cases h1 : (0 : Int) - 10 < z
    · rw [decide_eq_true h1]
      refine iteT ⟨_, _, rfl, rfl, _, rfl, ?_⟩
      by_cases h2 : z < 10
      · rw [decide_eq_true h2]
        exact iteT ⟨_, rfl, _, rfl, (by show 3 ≤ sizeLine; decide), fun p hp => k _ _ _ p hp⟩
      · rw [decide_eq_false h2]
        exact iteF ⟨_, rfl, _, rfl, .inl ⟨_, rfl, _, _, rfl, rfl, (by show (0 : Int) < 1009; decide), _, _, rfl, rfl, _, rfl, _, _, rfl, rfl, ⟨by decide, by decide, by decide⟩, _, _, rfl, rfl, .inr ⟨_, rfl, (by show 3 ≤ sizeLine; decide), fun p hp => k _ _ _ p hp⟩⟩⟩
    · rw [decide_eq_false h1]
      exact iteF ⟨_, rfl, iteF ⟨_, rfl, _, rfl, .inl ⟨_, rfl, _, _, rfl, rfl, (by show (0 : Int) < 1009; decide), _, _, rfl, rfl, _, rfl, _, _, rfl, rfl, ⟨by decide, by decide, by decide⟩, _, _, rfl, rfl, .inr ⟨_, rfl, (by show 3 ≤ sizeLine; decide), fun p hp => k _ _ _ p hp⟩⟩⟩⟩
/-! #### _law_roll -/
def spRoll : Sp := fun vs H Q _ => ∃ (p : Addr) (n : Int), vs = [.ref p, .int n] ∧ DiceAt H p ∧ 1 ≤ n ∧ n ≤ 1000 ∧ ∀ (v : Int) (H' : Hp), 0 ≤ v → v < n → DiceAt H' p → (∀ b, b ≠ p → H' b = H b) → Q (.int v) H'
theorem scRoll : FnScope ["_law_dice_here", "_law_many", "_law_found"] ["_law_dice_here", "_law_many"] (defScope sRoll) := ⟨rfl, rfl, rfl, by decide +kernel, rfl, by decide +kernel, by decide +kernel⟩
theorem roll_test {K : PySem.W.Frag} {σ : L2.St} {H : Hp} {F : Bool → Hp → Prop} {p : Addr} {a b c : Int} (hσ : σ[0]? = some (some (.ref p))) (hp : H p = some (.lst [.int a, .int b, .int c])) (hy : F true H) (hn : F false H) :
    tOr (tTest (tOp rEq (tOp (rIxL K) (tVar 0) (tC (.int 2))) (tC (.int 2)))) (tAnd (tTest (tOp rEq (tOp (rIxL K) (tVar 0) (tC (.int 2))) (tC (.int 1)))) (tTest (tOp (rI0 fun i j => .bl (decide (j < i))) (tOp (rIxL K) (tVar 0) (tC (.int 0))) (tC (.int 0))))) σ H F := by
  refine ⟨_, hσ, p, _, 2, .int c, rfl, rfl, SqL.of hp, rfl, rfl, _, rfl, ?_⟩
  by_cases h2 : c = 2
  · rw [decide_eq_true (congrArg V.int h2)]
    exact hy
  · rw [decide_eq_false (fun z => h2 (V.int.inj z))]
    refine ⟨_, hσ, p, _, 2, .int c, rfl, rfl, SqL.of hp, rfl, rfl, _, rfl, ?_⟩
    by_cases h1 : c = 1
    · rw [decide_eq_true (congrArg V.int h1)]
      refine ⟨_, hσ, p, _, 0, .int a, rfl, rfl, SqL.of hp, rfl, _, _, rfl, rfl, _, rfl, ?_⟩
      by_cases h0 : 0 < a
      · rw [decide_eq_true h0]
        exact hy
      · rw [decide_eq_false h0]
        exact hn
    · rw [decide_eq_false (fun z => h1 (V.int.inj z))]
      exact hn
theorem ok_roll (F : FnS K "_law_roll" "_law_roll" sRoll f fd) (T : Txt K mg CC CE) : FnOk P w K mg base CX0 1 f fd ["_law_dice_here", "_law_many"] spRoll := by
  refine F.ok scRoll (fun vs H Q E h => ?_) (fun cdv A outer s0 H vs Q E hr h => ?_)
  · obtain ⟨p, n, rfl, _⟩ := h
    rfl
  · obtain ⟨p, n, rfl, ⟨a, b, c, hp⟩, hn1, hn2, k⟩ := h
    refine ⟨_, PSs.nox (pss_cons (ps_if (PW.pt (pw_or (pt_cmpR op_eq (pe_ix ix_list (pv 0) pe_int (fun _ _ => rfl)) pe_int (nomark _))
          (pw_or1 (PW.pt (pw_and (pt_cmpR op_eq (pe_ix ix_list (pv 0) pe_int (fun _ _ => rfl)) pe_int (nomark _)) (pw_and1 (pt_cmpR op_gt (pe_ix ix_list (pv 0) pe_int (fun _ _ => rfl)) pe_int (nomark _))))))))
        (pss_cons (ps_set (i := 2) scRoll.nd rfl (Or.inl rfl) (pe_op op_mod (pe_callTy call_int1 (by rfl) T.gInt boot_int (pa_cons (pe_ix ix_list (pv 0) pe_int (fun _ _ => rfl)) pa_nil)) (pv 1)))
        (pss_cons (ps_asg (pe_op op_fdiv (pe_ix ix_list (pv 0) pe_int (fun _ _ => rfl)) (pv 1)) (pg_sub (pv 0) pe_int set_list))
        (pss_one (ps_ret (pv 2))))) pss_nil)
      (pss_cons (ps_asg pe_int (pg_sub (pv 0) pe_int set_list))
      (pss_cons (ps_asg (pe_op op_mod (pe_callTy call_int1 (by rfl) T.gInt boot_int (pa_cons (pe_op op_add (pe_op op_add (pe_op op_mul (pe_ix ix_list (pv 0) pe_int (fun _ _ => rfl)) pe_int) (pe_op op_mul (pe_ix ix_list (pv 0) pe_int (fun _ _ => rfl)) pe_int)) pe_int) pa_nil)) pe_int) (pg_sub (pv 0) pe_int set_list))
      (pss_cons (ps_asg (pe_op op_add (pe_ix ix_list (pv 0) pe_int (fun _ _ => rfl)) pe_int) (pg_sub (pv 0) pe_int set_list))
      (pss_one (ps_ret (pe_op op_mod (pe_callTy call_int1 (by rfl) T.gInt boot_int (pa_cons (pe_op op_add (pe_op op_fdiv (pe_ix ix_list (pv 0) pe_int (fun _ _ => rfl)) pe_int) (pe_ix ix_list (pv 0) pe_int (fun _ _ => rfl))) pa_nil)) (pv 1)))))))), ?_⟩
    refine roll_test (K := K) rfl hp ?_ ?_
    · refine iteT ?_
      refine ⟨_, rfl, p, _, 0, .int a, rfl, rfl, SqL.of hp, rfl, .inl ⟨_, rfl, _, rfl, _, _, rfl, rfl, (by omega), ?_⟩⟩
      refine ⟨_, rfl, p, _, 0, .int a, rfl, rfl, SqL.of hp, rfl, _, rfl, _, _, rfl, rfl, ⟨by omega, by omega⟩, _, rfl, p, _, 0, 0, rfl, rfl, hp, rfl, _, rfl, ?_⟩
      exact k _ _ (Int.emod_nonneg _ (by omega)) (Int.emod_lt_of_pos _ (by omega)) ⟨_, _, _, upd_same⟩ fun b hb => upd_ne hb
    · refine iteF ?_
      refine ⟨_, rfl, p, _, 2, 2, rfl, rfl, hp, rfl, ?_⟩
      have e1 : ∀ {H1 : Hp} {x y u : Int}, H1 p = some (.lst [.int x, .int y, .int u]) → SqL K H1 p [.int x, .int y, .int u] := fun h => SqL.of h
      have hp1 : (upd H p (.lst [.int a, .int b, .int 0])) p = some (.lst [.int a, .int b, .int 0]) := upd_same
      refine ⟨_, rfl, p, _, 0, .int a, rfl, rfl, e1 hp1, rfl, _, _, rfl, rfl, .inr ⟨by omega, by omega⟩, _, rfl, p, _, 1, .int b, rfl, rfl, e1 hp1, rfl, _, _, rfl, rfl, .inr ⟨by omega, by omega⟩, _, _, rfl, rfl, _, _, rfl, rfl, .inl ⟨_, rfl, _, _, rfl, rfl, (by omega), ?_⟩⟩
      refine ⟨_, rfl, p, _, 0, 0, rfl, rfl, hp1, rfl, ?_⟩
      rw [upd_upd]
      have hp2 : (upd H p (.lst [.int ((a * 48271 + b * 69621 + 11) % 2147483647), .int b, .int 0])) p = some (.lst [.int ((a * 48271 + b * 69621 + 11) % 2147483647), .int b, .int 0]) := upd_same
      refine ⟨_, rfl, p, _, 1, .int b, rfl, rfl, e1 hp2, rfl, _, _, rfl, rfl, _, rfl, p, _, 1, 1, rfl, rfl, hp2, rfl, ?_⟩
      rw [upd_upd]
      have hp3 : (upd H p (.lst [.int ((a * 48271 + b * 69621 + 11) % 2147483647), .int (b + 1), .int 0])) p = some (.lst [.int ((a * 48271 + b * 69621 + 11) % 2147483647), .int (b + 1), .int 0]) := upd_same
      refine ⟨_, rfl, p, _, 0, .int ((a * 48271 + b * 69621 + 11) % 2147483647), rfl, rfl, e1 hp3, rfl, _, _, rfl, rfl, ⟨by omega, by omega⟩, _, rfl, p, _, 0, .int ((a * 48271 + b * 69621 + 11) % 2147483647), rfl, rfl, e1 hp3, rfl, _, _, rfl, rfl, .inl ⟨_, rfl, _, rfl, _, _, rfl, rfl, (by omega), ?_⟩⟩
      exact k _ _ (Int.emod_nonneg _ (by omega)) (Int.emod_lt_of_pos _ (by omega)) ⟨_, _, _, hp3⟩ fun b hb => upd_ne hb
end
end Clx
/-! ## K16 -/
set_option Elab.async false
set_option linter.all false
set_option maxRecDepth 100000
set_option maxHeartbeats 4000000
set_option pp.maxSteps 1500
set_option pp.deepTerms false
/-! ### the rounds; drawn pairings -/
namespace Clx
open PySem PySem.Spec PyProof.Rows L2
theorem DiceAt.keep {H H' : Hp} {p : Addr} (h : DiceAt H p) (e : ∀ o, H p = some o → H' p = some o) : DiceAt H' p := by
  obtain ⟨a, b, c, h⟩ := h
  exact ⟨a, b, c, e _ h⟩
theorem cut1 (ns : List Int) : cutV (ns.map V.int) none (some 1) = (ns.take 1).map V.int := by
  cases ns with
  | nil => rfl
  | cons a r =>
    have h : (((a :: r).map V.int).drop (HT.sIx ((a :: r).map V.int).length 0 none)) = (a :: r).map V.int := rfl
    unfold cutV
    rw [h]
    have e : HT.sIx ((a :: r).map V.int).length ((a :: r).map V.int).length (some 1) - HT.sIx ((a :: r).map V.int).length 0 none = 1 := by
      have e1 : HT.sIx ((a :: r).map V.int).length 0 none = 0 := rfl
      rw [e1]
      unfold HT.sIx
      simp
    rw [e] <;> rfl
section
variable {P : Program} {w : World} {K : PySem.W.Frag} {mg : Str → Option Value} {base : Heap} {CC CE f fD fR fF : Addr} {fd fdD fdR fdF : FuncData}
def spRounds (K : PySem.W.Frag) : Sp := fun vs H Q _ => ∃ (l : Addr) (ns : List Int), vs = [.ref l, .int 1] ∧ SqL K H l (ns.map V.int) ∧ ∀ (p q : Addr) (H' : Hp), Same H H' → H p = none → DiceAt H' p → H' q = some (.lst [.ref p]) → Q (.ref q) H'
theorem scRounds : FnScope ["_law_script", "_law_most", "_law_cells", "_law_cell"] ["_law_script", "_law_most"] (defScope sRounds) := ⟨rfl, rfl, rfl, by decide +kernel, rfl, by decide +kernel, by decide +kernel⟩
theorem ok_rounds (F : FnS K "_law_rounds" "_law_rounds" sRounds f fd) (T : Txt K mg CC CE) (FD : FnS K "_law_dice" "_law_dice" sDice fD fdD) (gD : mg "_law_dice" = some (.ref fD)) : FnOk P w K mg base CX0 2 f fd ["_law_script", "_law_most"] (spRounds K) := by
  have GD : FnOk P w K mg base CX0 1 fD fdD ["_law_cell"] spDice := ok_dice FD T
  have bD : Binds K fdD ["_law_cell"] [] := FD.bindsN fun _ _ _ _ _ _ us hl => match us, hl with | [_], _ => rfl
  refine F.ok scRounds (fun vs H Q E h => ?_) (fun cdv A outer s0 H vs Q E hr h => ?_)
  · obtain ⟨l, ns, rfl, _⟩ := h
    rfl
  · obtain ⟨l, ns, rfl, hl, k⟩ := h
    refine ⟨_, PSs.nox (pss_cons (ps_set (i := 2) scRounds.nd rfl (Or.inl rfl) (pe_slice sl_list (pv 0) po_none (po_some (pv 1))))
      (pss_cons (ps_if (pt_cmpR (op_eqD hr.units) (pv 2) (pe_lst pa_nil) (nomark _)) (pss_one (ps_set (i := 2) scRounds.nd rfl (Or.inl rfl) (pe_lst (pa_cons pe_int pa_nil)))) pss_nil)
      (pss_one (ps_ret (pe_lc (own := [("_law_cell", 3)]) (g := gName 3) (tt := tYes) (te := tCall spDice [] E0 (tCons (tVar 3) tNil)) rfl scRounds.nd (pi_list (pv 2))
          (blkOk_by (N := ["_law_script", "_law_most", "_law_cells", "_law_cell"]) (sc := defScope sRounds) (by decide +kernel)) (fun _ _ _ _ _ => pg_name (i := 3) scRounds.nd rfl (Or.inl rfl)) (fun _ _ _ _ _ => pts_nil)
          (fun _ _ _ _ _ => pe_call GD hr rfl gD FD.kp bD .nil pass0 (pa_cons (pv 3) pa_nil))))))), ?_⟩
    refine ⟨_, rfl, _, rfl, _, rfl, l, _, rfl, hl, fun q hq => ?_⟩
    rw [cut1]
    have S1 : Same H (upd H q (.lst ((ns.take 1).map V.int))) := same_new hq
    have fin : ∀ (v3 : Option V) (c : Addr) (z : Int) (H1 : Hp), Same H H1 → H1 c = some (.lst [.int z]) → tRet (tLc (iList K (tVar 2)) (gName 3) tYes (tCall spDice [] E0 (tCons (tVar 3) tNil)) [3]) { nx := fun _ H' => Q .non H', rt := Q } [some (.ref l), some (.int 1), some (.ref c), v3] H1 := by
      intro v3 c z H1 SH hc
      refine ⟨_, rfl, c, rfl, ⟨_, SqL.of hc⟩, fun D hD => ?_⟩
      refine lc_list (K := K) (a := c) (xs := [.int z]) (fun i Hc => Same H1 Hc ∧ ((i = 0 ∧ Hc D = some (.lst [])) ∨ (i = 1 ∧ ∃ p, H1 p = none ∧ DiceAt Hc p ∧ Hc D = some (.lst [.ref p])))) ⟨same_new hD, .inl ⟨rfl, upd_same⟩⟩ (fun i Hc _ h => SqL.of (h.1 _ _ hc)) ?_ ?_
      · rintro i x Hc hi ⟨Sc, h⟩
        rcases h with ⟨rfl, hD1⟩ | ⟨rfl, _⟩
        · obtain rfl : V.int z = x := Option.some.inj hi
          refine ⟨rfl, _, rfl, z, rfl, fun a b c2 p hp => ?_⟩
          have hpD : p ≠ D := (ne_of_none hD1 hp).symm
          refine ⟨[], by rw [upd_ne hpD.symm]; exact hD1, (by show 0 < sizeLine; decide), fun b u hu => ?_, .inr ⟨rfl, p, Sc.free hp, ⟨a, b, c2, by rw [upd_ne hpD, upd_same]⟩, upd_same⟩⟩
          rw [upd_ne (ne_of_none hu hD), upd_ne (ne_of_none (Sc _ _ hu) hp)]
          exact Sc _ _ hu
        · cases hi
      · rintro Hc ⟨Sc, h⟩
        rcases h with ⟨h0, _⟩ | ⟨_, p, h1, h2, h3⟩
        · cases h0
        · exact k p D Hc (SH.trans Sc) (SH.free h1) h2 h3
    refine ⟨_, rfl, (by show 0 ≤ sizeLine; decide), fun e he => ?_⟩
    have S2 : Same H (upd (upd H q (.lst ((ns.take 1).map V.int))) e (.lst [])) := S1.trans (same_new he)
    have hq2 : (upd (upd H q (.lst ((ns.take 1).map V.int))) e (.lst [])) q = some (.lst ((ns.take 1).map V.int)) := same_new he _ _ upd_same
    refine ⟨_, _, dp_ints hq2, dp_ints (ns := []) upd_same, shaped_ints _, shaped_ints _, _, rfl, ?_⟩
    rw [eqv_ints]
    cases ns with
    | nil =>
      refine iteT ⟨(by show 1 ≤ sizeLine; decide), fun c hc => ?_⟩
      exact fin none c 0 _ (S2.trans (same_new hc)) upd_same
    | cons z r =>
      refine iteF ?_
      exact fin none q z _ S2 hq2
end
end Clx
/-! ## K17 -/
set_option Elab.async false
set_option linter.all false
set_option maxRecDepth 100000
set_option maxHeartbeats 4000000
set_option pp.maxSteps 1500
set_option pp.deepTerms false
/-! ### _law_full, _law_part -/
namespace Clx
open PySem PySem.Spec PyProof.Rows L2
/-- the ints 0 .. n - 1 -/
def rangeZ (n : Int) : List Int := (List.range n.toNat).map fun (i : Nat) => (i : Int)
theorem mem_rangeZ {n k : Int} : k ∈ rangeZ n ↔ 0 ≤ k ∧ k < n := by
  unfold rangeZ
  rw [List.mem_map]
  constructor
  · rintro ⟨i, hi, rfl⟩
    have := List.mem_range.mp hi
    omega
  · rintro ⟨h1, h2⟩
    exact ⟨k.toNat, List.mem_range.mpr (by omega), by omega⟩
theorem rangeZ_nodup (n : Int) : (rangeZ n).Nodup := nodup_map_of List.nodup_range fun x _ y _ e => by
  have e : (x : Int) = (y : Int) := e
  omega
theorem rangeZ_length (n : Int) : (rangeZ n).length = n.toNat := by unfold rangeZ; rw [List.length_map, List.length_range]
theorem rgV_eq (n : Int) : rgV 0 n = (rangeZ n).map V.int := by
  unfold rgV rangeZ
  rw [List.map_map]
  have e : (n - 0).toNat = n.toNat := by omega
  rw [e]
  refine List.map_congr_left fun i _ => ?_
  show V.int (0 + (i : Int)) = V.int (i : Int)
  rw [Int.zero_add]
theorem erase_perm : ∀ {l : List Int} {j : Nat} {k : Int}, l[j]? = some k → (k :: l.eraseIdx j).Perm l
  | [], j, k, h => by simp at h
  | a :: r, 0, k, h => by
    obtain rfl : a = k := by simpa using h
    exact .refl _
  | a :: r, j + 1, k, h => by
    have h2 : r[j]? = some k := by simpa using h
    have ih := erase_perm h2
    have e : (a :: r).eraseIdx (j + 1) = a :: r.eraseIdx j := rfl
    rw [e]
    exact (List.Perm.swap a k _).trans (.cons a ih)
section
variable {P : Program} {w : World} {K : PySem.W.Frag} {mg : Str → Option Value} {base : Heap} {CC CE f fD fR fF : Addr} {fd fdD fdR fdF : FuncData}
/-- all but p stays -/
def SameBut (p : Addr) (H H' : Hp) : Prop := ∀ b o, b ≠ p → H b = some o → H' b = some o
theorem SameBut.trans {p : Addr} {H H1 H2 : Hp} (a : SameBut p H H1) (b : SameBut p H1 H2) : SameBut p H H2 := fun c o hc h => b c o hc (a c o hc h)
theorem SameBut.same {p : Addr} {H H1 H2 : Hp} (a : SameBut p H H1) (b : Same H1 H2) : SameBut p H H2 := fun c o hc h => b c o (a c o hc h)
theorem Same.but {p : Addr} {H H1 : Hp} (a : Same H H1) : SameBut p H H1 := fun c o _ h => a c o h
theorem SameBut.free {p q : Addr} {H H' : Hp} (a : SameBut p H H') (hp : DiceAt H' p) (hq : H' q = none) : H q = none := by
  cases e : H q with
  | none => rfl
  | some u =>
    by_cases hqp : q = p
    · obtain ⟨x, y, z, h⟩ := hp
      rw [← hqp, hq] at h
      cases h
    · rw [a q u hqp e] at hq
      cases hq
theorem but_of {p : Addr} {H H' : Hp} (h : ∀ b, b ≠ p → H' b = H b) : SameBut p H H' := fun b o hb e => by
  rw [h b hb]
  exact e
def spFull : Sp := fun vs H Q _ => ∃ (p : Addr) (n : Int), vs = [.ref p, .int n] ∧ DiceAt H p ∧ 0 ≤ n ∧ n ≤ 9 ∧
  ∀ (os : List Int) (q : Addr) (H' : Hp), os.Perm (rangeZ n) → DiceAt H' p → SameBut p H H' → H q = none → H' q = some (.tup (os.map V.int)) → Q (.ref q) H'
theorem scFull : FnScope ["_law_dice_here", "_law_many", "_law_left", "_law_order", "_law_one"] ["_law_dice_here", "_law_many"] (defScope sFull) := ⟨rfl, rfl, rfl, by decide +kernel, rfl, by decide +kernel, by decide +kernel⟩
theorem ok_full (F : FnS K "_law_full" "_law_full" sFull f fd) (T : Txt K mg CC CE) (FR : FnS K "_law_roll" "_law_roll" sRoll fR fdR) (gR : mg "_law_roll" = some (.ref fR)) : FnOk P w K mg base CX0 2 f fd ["_law_dice_here", "_law_many"] spFull := by
  have GR : FnOk P w K mg base CX0 1 fR fdR ["_law_dice_here", "_law_many"] spRoll := ok_roll FR T
  have bR : Binds K fdR ["_law_dice_here", "_law_many"] [] := FR.bindsN fun _ _ _ _ _ _ us hl => match us, hl with | [_, _], _ => rfl
  refine F.ok scFull (fun vs H Q E h => ?_) (fun cdv A outer s0 H vs Q E hr h => ?_)
  · obtain ⟨p, n, rfl, _⟩ := h
    rfl
  · obtain ⟨p, n, rfl, hp, hn0, hn9, k⟩ := h
    refine ⟨_, PSs.nox (pss_cons (ps_par (i := 2) (j := 3) rfl scFull.nd rfl rfl (by decide) rfl rfl (pa_cons (pe_listRg rfl (by rfl) T.gList (prg_1 (by rfl) T.gRange (pv 1))) (pa_cons (pe_lst pa_nil) pa_nil)) (by rfl))
      (pss_cons (ps_while PassesOwn.never (pt_cmpR (op_neD hr.units) (pv 2) (pe_lst pa_nil) (nomark _))
        (pss_cons (ps_set (i := 4) scFull.nd rfl (Or.inl rfl) (pe_ix ix_list (pv 2) (pe_call GR hr rfl gR FR.kp bR .nil pass0 (pa_cons (pv 0) (pa_cons (pe_callB call_len_seq (by rfl) T.gLen PySem.boot_len (pa_cons (pv 2) pa_nil)) pa_nil))) (fun _ _ => rfl)))
        (pss_cons (ps_expr (pe_bm PySem.F.plainAttrs_list PySem.F.slot_list_append PySem.F.type_list_append mt_append (pv 3) (pa_cons (pv 4) pa_nil)))
        (pss_one (ps_expr (pe_bm PySem.F.plainAttrs_list PySem.F.slot_list_remove PySem.F.type_list_remove mt_remove (pv 2) (pa_cons (pv 4) pa_nil)))))))
      (pss_one (ps_ret (pe_callTy call_tuple_of (by rfl) T.gTuple (by decide +kernel) (pa_cons (pv 3) pa_nil)))))), ?_⟩
    -- _law_left, _law_order = list(range(n)), []
    refine ⟨_, rfl, n, rfl, ⟨by omega, by omega, by omega, by omega, by omega⟩, fun l hl => ?_⟩
    rw [rgV_eq]
    refine ⟨(by show 0 ≤ sizeLine; decide), fun o ho => ⟨_, _, rfl, ?_⟩⟩
    have S1 : Same H (upd (upd H l (.lst ((rangeZ n).map V.int))) o (.lst [])) := (same_new hl).trans (same_new ho)
    have hlp : l ≠ p := fun z => by
      obtain ⟨a, b, c, h⟩ := hp
      rw [← z, hl] at h
      cases h
    have hol : o ≠ l := fun z => by
      rw [z, upd_same] at ho
      cases ho
    have hoH : H o = none := (same_new hl).free ho
    have hop : o ≠ p := fun z => by
      obtain ⟨a, b, c, h⟩ := hp
      rw [← z, hoH] at h
      cases h
    -- while _law_left != []
    refine ⟨fun m σ Hc => ∃ (v4 : Option V) (ns os : List Int), σ = [some (.ref p), some (.int n), some (.ref l), some (.ref o), v4] ∧ m = ns.length ∧ (os ++ ns).Perm (rangeZ n) ∧ DiceAt Hc p ∧ SameBut p H Hc ∧ Hc l = some (.lst (ns.map V.int)) ∧ Hc o = some (.lst (os.map V.int)),
      ⟨_, none, rangeZ n, [], rfl, rfl, .refl _, hp.keep (S1 _), Same.but S1, by rw [upd_ne hol.symm, upd_same], upd_same⟩, ?_⟩
    rintro m σ Hc ⟨v4, ns, os, rfl, rfl, hperm, hp1, Sb, hl1, ho1⟩
    have hnl : os.length + ns.length = n.toNat := by
      have := hperm.length_eq
      rw [List.length_append, rangeZ_length] at this
      exact this
    refine ⟨_, rfl, (by show 0 ≤ sizeLine; decide), fun e he => ?_⟩
    have Se : Same Hc (upd Hc e (.lst [])) := same_new he
    refine ⟨_, _, dp_ints (Se _ _ hl1), dp_ints (ns := []) upd_same, shaped_ints _, shaped_ints _, _, rfl, ?_⟩
    rw [eqv_ints]
    have hl2 := Se _ _ hl1
    have ho2 := Se _ _ ho1
    have hp2 := hp1.keep (Se _)
    have Sb2 := Sb.same Se
    generalize upd Hc e (.lst []) = Hd at hl2 ho2 hp2 Sb2 ⊢
    by_cases hns : ns = []
    · rw [decide_eq_true hns]
      refine iteF ⟨_, rfl, o, _, rfl, .inl ⟨SqL.of ho2, fun q hq => ?_⟩⟩
      subst hns
      rw [List.append_nil] at hperm
      refine k os q _ hperm (hp2.keep (same_new hq _)) (Sb2.same (same_new hq)) ?_ upd_same
      exact Sb2.free hp2 hq
    · rw [decide_eq_false hns]
      have hnd : ns.Nodup := (List.nodup_append.mp (hperm.nodup_iff.mpr (rangeZ_nodup n))).2.1
      have hpos : 0 < ns.length := by
        cases ns with
        | nil => exact (hns rfl).elim
        | cons a r => exact Nat.succ_pos _
      refine iteT ⟨fun σ' Hc' => ∃ (v4 : Option V) (ns' os' : List Int), σ' = [some (.ref p), some (.int n), some (.ref l), some (.ref o), v4] ∧ ns'.length + 1 = ns.length ∧ (os' ++ ns').Perm (rangeZ n) ∧ DiceAt Hc' p ∧ SameBut p H Hc' ∧ Hc' l = some (.lst (ns'.map V.int)) ∧ Hc' o = some (.lst (os'.map V.int)),
        fun σ' Hc' ⟨v, ns', os', h1, h2, h3⟩ => ⟨_, by omega, v, ns', os', h1, rfl, h3⟩, ?_⟩
      refine ⟨_, rfl, _, rfl, _, rfl, l, _, rfl, .inl (SqL.of hl2), ?_⟩
      rw [List.length_map]
      refine ⟨p, ns.length, rfl, hp2, by omega, by omega, fun v H3 hv0 hv1 hp3 hH3 => ?_⟩
      have S3 : SameBut p Hd H3 := but_of hH3
      have hl3 := S3 _ _ hlp hl2
      have ho3 := S3 _ _ hop ho2
      obtain ⟨kk, hkk⟩ : ∃ kk, ns[v.toNat]? = some kk := ⟨_, List.getElem?_eq_getElem (by omega)⟩
      refine ⟨l, _, v, .int kk, rfl, rfl, SqL.of hl3, at_of (j := v.toNat) (by omega) (by rw [List.getElem?_map, hkk] <;> rfl), ?_⟩
      refine ⟨_, rfl, .inl ⟨rfl, _, SqL.of ho3⟩, _, rfl, o, _, _, rfl, rfl, ho3, small1000 (by rw [List.length_map]; omega), ?_⟩
      have hl4 : (upd H3 o (.lst (os.map V.int ++ [V.int kk]))) l = some (.lst (ns.map V.int)) := by
        rw [upd_ne hol.symm]
        exact hl3
      refine ⟨_, rfl, .inl ⟨rfl, _, SqL.of hl4⟩, _, rfl, l, ns, kk, v.toNat, rfl, rfl, hl4, hkk, fun m hm e => by have := nd_ix hnd e hkk; omega, ?_⟩
      refine ⟨some (.int kk), ns.eraseIdx v.toNat, os ++ [kk], rfl, by rw [List.length_eraseIdx, if_pos (by omega)]; omega, ?_, ?_, ?_, upd_same, ?_⟩
      · rw [List.append_assoc]
        exact (List.Perm.append_left os (erase_perm hkk)).trans hperm
      · exact hp3.keep fun u hu => by rw [upd_ne hlp.symm, upd_ne hop.symm]; exact hu
      · intro b u hb hu
        rw [upd_ne (ne_of_none hu hl), upd_ne (ne_of_none hu hoH)]
        exact (Sb2.trans S3) b u hb hu
      · rw [upd_ne hol, upd_same, List.map_append] <;> rfl
/-! #### _law_part -/
def ov : Option Int → V
  | none => .non
  | some z => .int z
/-- a drawn pairing: some gates' own goals -/
structure PartOk (n : Int) (pr : List (Option Int)) : Prop where
  len : pr.length = n.toNat
  bd : ∀ (k : Nat) z, pr[k]? = some (some z) → 0 ≤ z ∧ z < n
  inj : ∀ (j k : Nat) z, pr[j]? = some (some z) → pr[k]? = some (some z) → j = k
def spPart2 : Sp := fun vs H Q _ => ∃ (p : Addr) (n : Int), vs = [.ref p, .int n] ∧ DiceAt H p ∧ 0 ≤ n ∧ n ≤ 9 ∧
  ∀ (pr : List (Option Int)) (q : Addr) (H' : Hp), PartOk n pr → DiceAt H' p → SameBut p H H' → H q = none → H' q = some (.tup (pr.map ov)) → Q (.ref q) H'
theorem scPart2 : FnScope ["_law_dice_here", "_law_many", "_law_gate"] ["_law_dice_here", "_law_many"] (defScope sPart2) := ⟨rfl, rfl, rfl, by decide +kernel, rfl, by decide +kernel, by decide +kernel⟩
theorem ok_part2 (F : FnS K "_law_part" "_law_part" sPart2 f fd) (T : Txt K mg CC CE) (FR : FnS K "_law_roll" "_law_roll" sRoll fR fdR) (gR : mg "_law_roll" = some (.ref fR)) (FF : FnS K "_law_full" "_law_full" sFull fF fdF) (gF : mg "_law_full" = some (.ref fF)) : FnOk P w K mg base CX0 3 f fd ["_law_dice_here", "_law_many"] spPart2 := by
  have GR : FnOk P w K mg base CX0 1 fR fdR ["_law_dice_here", "_law_many"] spRoll := ok_roll FR T
  have bR : Binds K fdR ["_law_dice_here", "_law_many"] [] := FR.bindsN fun _ _ _ _ _ _ us hl => match us, hl with | [_, _], _ => rfl
  have GF : FnOk P w K mg base CX0 2 fF fdF ["_law_dice_here", "_law_many"] spFull := ok_full FF T FR gR
  have bF : Binds K fdF ["_law_dice_here", "_law_many"] [] := FF.bindsN fun _ _ _ _ _ _ us hl => match us, hl with | [_, _], _ => rfl
  refine F.ok scPart2 (fun vs H Q E h => ?_) (fun cdv A outer s0 H vs Q E hr h => ?_)
  · obtain ⟨p, n, rfl, _⟩ := h
    rfl
  · obtain ⟨p, n, rfl, hp, hn0, hn9, k⟩ := h
    have hr1 : Room 1 _ := hr.mono (by decide)
    refine ⟨_, PSs.nox (pss_one (ps_ret (pe_callTy call_tuple_of (by rfl) T.gTuple (by decide +kernel) (pa_cons (pe_lc (own := [("_law_gate", 2)]) (g := gName 2) (tt := tYes)
        (te := tIf (tTest (tOp rEq (tCall spRoll [] E0 (tCons (tVar 0) (tCons (tC (.int 3)) tNil))) (tC (.int 0)))) (tC .non) (tVar 2)) rfl scPart2.nd
        (pi_tup (pe_call GF hr rfl gF FF.kp bF .nil pass0 (pa_cons (pv 0) (pa_cons (pv 1) pa_nil))))
        (blkOk_by (N := ["_law_dice_here", "_law_many", "_law_gate"]) (sc := defScope sPart2) (by decide +kernel)) (fun _ _ _ _ _ => pg_name (i := 2) scPart2.nd rfl (Or.inl rfl)) (fun _ _ _ _ _ => pts_nil)
        (fun _ _ _ _ _ => pe_ifExp (pt_cmpR op_eq (pe_call GR hr1 rfl gR FR.kp bR .nil pass0 (pa_cons (pv 0) (pa_cons pe_int pa_nil))) pe_int (nomark _)) pe_non (pv 2))) pa_nil)))), ?_⟩
    refine ⟨_, rfl, _, rfl, p, n, rfl, hp, hn0, hn9, fun os q H1 hperm hp1 S1 hqH hq1 => ?_⟩
    refine ⟨q, rfl, ⟨_, SqT.of hq1⟩, fun D hD => ?_⟩
    have hqp : q ≠ p := fun z => by
      obtain ⟨a, b, c, h⟩ := hp
      rw [← z, hqH] at h
      cases h
    have hDp : D ≠ p := fun z => by
      obtain ⟨a, b, c, h⟩ := hp1
      rw [← z, hD] at h
      cases h
    have hDH : H D = none := S1.free hp1 hD
    refine lc_tup (K := K) (a := q) (xs := os.map V.int) (fun i Hc => DiceAt Hc p ∧ SameBut p H Hc ∧ Hc q = some (.tup (os.map V.int)) ∧ ∃ pr : List (Option Int), Hc D = some (.lst (pr.map ov)) ∧ pr.length = i ∧ ∀ (k : Nat) z, pr[k]? = some (some z) → os[k]? = some z)
      ⟨hp1.keep (same_new hD _), S1.same (same_new hD), same_new hD _ _ hq1, [], upd_same, rfl, fun k z h => by simp at h⟩ (fun i Hc _ h => SqT.of h.2.2.1) ?_ ?_
    · rintro i x Hc hi ⟨hpc, Sc, hqc, pr, hDc, hpl, hpr⟩
      obtain ⟨z, hz, rfl⟩ := map_get hi
      have hil : i < os.length := (List.getElem?_eq_some_iff.mp hz).1
      have hosl : os.length = n.toNat := by rw [hperm.length_eq, rangeZ_length]
      refine ⟨rfl, _, rfl, p, 3, rfl, hpc, by omega, by omega, fun v H2 hv0 hv1 hp2 hH2 => ?_⟩
      have hD2 : H2 D = some (.lst (pr.map ov)) := by rw [hH2 D hDp]; exact hDc
      have hq2 : H2 q = some (.tup (os.map V.int)) := by rw [hH2 q hqp]; exact hqc
      have S2 : SameBut p H H2 := Sc.trans (but_of hH2)
      have step : ∀ o : Option Int, (∀ z', o = some z' → z' = z) → ∃ acc, H2 D = some (.lst acc) ∧ acc.length < sizeLine ∧ (DiceAt (upd H2 D (.lst (acc ++ [ov o]))) p ∧ SameBut p H (upd H2 D (.lst (acc ++ [ov o]))) ∧ (upd H2 D (.lst (acc ++ [ov o]))) q = some (.tup (os.map V.int)) ∧
          ∃ pr : List (Option Int), (upd H2 D (.lst (acc ++ [ov o]))) D = some (.lst (pr.map ov)) ∧ pr.length = i + 1 ∧ ∀ (k : Nat) z, pr[k]? = some (some z) → os[k]? = some z) := fun o ho => by
        refine ⟨_, hD2, small1000 (by rw [List.length_map]; omega), hp2.keep fun u hu => by rw [upd_ne hDp.symm]; exact hu, fun b u hb hu => ?_, ?_, pr ++ [o], by rw [upd_same, List.map_append] <;> rfl, by rw [List.length_append, hpl] <;> rfl, fun k z' hk => ?_⟩
        · rw [upd_ne (ne_of_none hu hDH)]
          exact S2 b u hb hu
        · rw [upd_ne (ne_of hq2 hD2 (by intro z; cases z))]
          exact hq2
        · by_cases hki : k < i
          · rw [List.getElem?_append_left (by omega)] at hk
            exact hpr k z' hk
          · have hk2 : k = i := by
              have := (List.getElem?_eq_some_iff.mp hk).1
              rw [List.length_append, List.length_singleton] at this
              omega
            subst hk2
            rw [List.getElem?_append_right (by omega), hpl, Nat.sub_self] at hk
            have hk : some o = some (some z') := hk
            rw [ho z' (Option.some.inj hk)]
            exact hz
      refine ⟨rfl, _, rfl, ?_⟩
      by_cases hv : v = 0
      · rw [decide_eq_true (congrArg V.int hv)]
        exact iteT (step none fun z' h => by cases h)
      · rw [decide_eq_false (fun z => hv (V.int.inj z))]
        exact iteF ⟨_, rfl, step (some z) fun z' h => (Option.some.inj h).symm⟩
    · rintro Hc ⟨hpc, Sc, hqc, pr, hDc, hpl, hpr⟩
      refine ⟨D, _, rfl, .inl ⟨SqL.of hDc, fun r hr2 => ?_⟩⟩
      have hnd : os.Nodup := hperm.nodup_iff.mpr (rangeZ_nodup n)
      refine k pr r _ ⟨by rw [hpl, List.length_map, hperm.length_eq, rangeZ_length], fun a z ha => mem_rangeZ.mp (hperm.mem_iff.mp (List.mem_of_getElem? (hpr a z ha))), fun a b z ha hb => nd_ix hnd (hpr a z ha) (hpr b z hb)⟩ (hpc.keep (same_new hr2 _)) (Sc.same (same_new hr2)) (Sc.free hpc hr2) upd_same
end
end Clx
/-! ## K18 -/
set_option Elab.async false
set_option linter.all false
set_option maxRecDepth 100000
set_option maxHeartbeats 4000000
set_option pp.maxSteps 1500
set_option pp.deepTerms false
/-! ### _law_told -/
namespace Clx
open PySem PySem.Spec PyProof.Rows L2
/-- what an exception of the class cls gives by the clauses -/
def wq (K : PySem.W.Frag) (Q : VK) (H : Hp) (cls : Value) : List (Addr × Str) → Prop
  | [] => False
  | p :: r => ∃ b, PySem.W.exmOne K cls (.ref p.1) = some b ∧ (b = true → Q (.str p.2) H) ∧ (b = false → wq K Q H cls r)
def hdsOf (cl : List (Addr × Str)) : List (Value × (Addr → Value → Option Addr → TS)) := cl.map fun p => (.ref p.1, fun _ _ _ => tRet (tC (.str p.2)))
theorem wMany_of {K : PySem.W.Frag} {D : Ends} {cls : Value} {d : Option Addr} {σ : L2.St} {H : Hp} : ∀ {cl : List (Addr × Str)}, wq K D.rt H cls cl → wMany K (fun _ _ _ _ => False) D (hdsOf cl) cls d σ H
  | [], h => h.elim
  | p :: r, ⟨b, e1, e2, e3⟩ => ⟨b, e1, fun hb _ _ => e2 hb, fun hb => wMany_of (e3 hb)⟩
def TTm (K : PySem.W.Frag) (cl : List (Addr × Str)) : (XK → Hp → VK → Prop) → Hp → VK → Prop := fun tl H Q => tl (fun cls _ H' => wq K Q H' cls cl) H Q
/-- the nine classes, as the top has left them -/
structure Nine (mg : Str → Option Value) (BG BN BR BS BK BP BT BO NS : Addr) : Prop where
  g1 : mg "BadGate" = some (.ref BG)
  g2 : mg "BadNet" = some (.ref BN)
  g3 : mg "BadRate" = some (.ref BR)
  g4 : mg "BadSize" = some (.ref BS)
  g5 : mg "Blocked" = some (.ref BK)
  g6 : mg "BadPaper" = some (.ref BP)
  g7 : mg "BadText" = some (.ref BT)
  g8 : mg "BadStore" = some (.ref BO)
  g9 : mg "NoSuch" = some (.ref NS)
section
variable {X : Cx} {BG BN BR BS BK BP BT BO NS g : Addr} {cdg : Value} {q : Str}
theorem told9 (N9 : Nine X.mg BG BN BR BS BK BP BT BO NS) : LamX.GivesTo X ["_law_what"] "_law_told" (defScope sTold) g cdg (defBody sTold) "_law_what" q
    (TTm X.K [(BG, "gate"), (BN, "net"), (BR, "rate"), (BS, "size"), (BK, "blocked"), (BP, "paper"), (BT, "text"), (BO, "store"), (NS, "no such")]) := by
  intro f c' s H Q tl act hc h
  refine ⟨_, pss_one (ps_try_many (X := (cxOf C8.CX0 X.prog X.w X.K X.mg X.base ["_law_what"] "_law_told" (defScope sTold) g cdg X.A X.stack s H C8.E0).nox)
      (l := hdsOf [(BG, "gate"), (BN, "net"), (BR, "rate"), (BS, "size"), (BK, "blocked"), (BP, "paper"), (BT, "text"), (BO, "store"), (NS, "no such")])
      (tb := fun W D σ H => ∃ Ech : XK, (∀ cls d σ' H', Ech cls d H' → W cls d σ' H') ∧ σ[0]? = some (some (.ref f)) ∧ H c' = some (LamX.CodeO c' q) ∧ tl Ech H D.rt)
      rfl rfl LamX.takes0 (fun W pn xe tk _ => ?_)
      (.cons ⟨rfl, by decide, .inl N9.g1⟩ (fun a oe cls d pn _ _ => pss_one (ps_ret pe_str)) (.cons ⟨rfl, by decide, .inl N9.g2⟩ (fun a oe cls d pn _ _ => pss_one (ps_ret pe_str)) (.cons ⟨rfl, by decide, .inl N9.g3⟩ (fun a oe cls d pn _ _ => pss_one (ps_ret pe_str))
      (.cons ⟨rfl, by decide, .inl N9.g4⟩ (fun a oe cls d pn _ _ => pss_one (ps_ret pe_str)) (.cons ⟨rfl, by decide, .inl N9.g5⟩ (fun a oe cls d pn _ _ => pss_one (ps_ret pe_str)) (.cons ⟨rfl, by decide, .inl N9.g6⟩ (fun a oe cls d pn _ _ => pss_one (ps_ret pe_str))
      (.cons ⟨rfl, by decide, .inl N9.g7⟩ (fun a oe cls d pn _ _ => pss_one (ps_ret pe_str)) (.cons ⟨rfl, by decide, .inl N9.g8⟩ (fun a oe cls d pn _ _ => pss_one (ps_ret pe_str)) (.cons ⟨rfl, by decide, .inl N9.g9⟩ (fun a oe cls d pn _ _ => pss_one (ps_ret pe_str)) .nil)))))))))), ?_⟩
  · refine ⟨fun pins s' σ H' D I h' => ?_⟩
    obtain ⟨Ech, hW, h1, h2, h3⟩ := h'
    exact PSs.run (pss_one (ps_ret (act W pn xe Ech _ _ tk hW))) pins s' σ H' D I ⟨h1, h2, h3⟩
  · exact ⟨fun cls _ H' => wq X.K Q H' cls [(BG, "gate"), (BN, "net"), (BR, "rate"), (BS, "size"), (BK, "blocked"), (BP, "paper"), (BT, "text"), (BO, "store"), (NS, "no such")], fun cls d σ' H' h => wMany_of h, rfl, hc, h⟩
end
end Clx
/-! ## K19 -/
set_option Elab.async false
set_option linter.all false
set_option maxRecDepth 100000
set_option maxHeartbeats 4000000
set_option pp.maxSteps 1500
set_option pp.deepTerms false
/-! ### the law: its names, its state, what it calls -/
namespace Clx
open PySem PySem.Spec PyProof.Rows L2
abbrev NL : List Str := ["_law_script", "_law_dice_here", "_law_lines", "_law_slots", "_law_inner", "_law_exchange", "_law_pairs", "_law_order", "_law_gone", "_law_cells", "_law_due", "_law_one", "_law_moved", "_law_line", "_law_slot", "_law_row", "_law_reads", "_law_writes", "_law_mine", "_law_theirs", "_law_number_now", "_law_joined_now", "_law_goal", "_law_a", "_law_b", "_law_c", "_law_k", "_law_steps"]
theorem scLaw : FnScope NL ["_law_script"] (defScope sLaw) := ⟨rfl, rfl, rfl, by decide +kernel, rfl, by decide +kernel, by decide +kernel⟩
def forBody : Stmt → List Stmt
  | .For _ _ b _ _ => b
  | _ => []
abbrev lawFor : Stmt := (defBody sLaw).getD 0 (.Pass ⟨0, 0, 0, 0⟩)
abbrev lb (i : Nat) : Stmt := (forBody lawFor).getD i (.Pass ⟨0, 0, 0, 0⟩)
theorem lawBody_eq : forBody lawFor = [lb 0, lb 1, lb 2, lb 3, lb 4, lb 5, lb 6, lb 7, lb 8, lb 9, lb 10, lb 11, lb 12, lb 13, lb 14, lb 15, lb 16, lb 17, lb 18] := by rfl
/-- the law's state once the exchange and the pairing stand -/
def SL (dc x pr : Addr) (l s i : Int) (σ : L2.St) : Prop := ∃ (v0 v7 v8 v9 v10 v11 v12 v13 v14 v15 v16 v17 v18 v19 v20 v21 v22 v23 v24 v25 v26 v27 : Option V), σ = [v0, some (.ref dc), some (.int l), some (.int s), some (.int i), some (.ref x), some (.ref pr), v7, v8, v9, v10, v11, v12, v13, v14, v15, v16, v17, v18, v19, v20, v21, v22, v23, v24, v25, v26, v27]
theorem SL.mk {dc x pr : Addr} {l s i : Int} {v0 v7 v8 v9 v10 v11 v12 v13 v14 v15 v16 v17 v18 v19 v20 v21 v22 v23 v24 v25 v26 v27 : Option V} : SL dc x pr l s i [v0, some (.ref dc), some (.int l), some (.int s), some (.int i), some (.ref x), some (.ref pr), v7, v8, v9, v10, v11, v12, v13, v14, v15, v16, v17, v18, v19, v20, v21, v22, v23, v24, v25, v26, v27] := ⟨v0, v7, v8, v9, v10, v11, v12, v13, v14, v15, v16, v17, v18, v19, v20, v21, v22, v23, v24, v25, v26, v27, rfl⟩

/-- the law's context -/
abbrev LX (P : Program) (w : World) (K : PySem.W.Frag) (mg : Str → Option Value) (base : Heap) (f : Addr) (cd : Value) (A : Around) (outer : List Env) (s0 : Shared) (H0 : Hp) (E : XK) : Cx := (cxOf CX0 P w K mg base NL "law" (defScope sLaw) f cd A outer s0 H0 E).nox
/-- a def of the top, by its name -/
def FnG (P : Program) (w : World) (K : PySem.W.Frag) (mg : Str → Option Value) (base : Heap) (CX : CXT) (x : Str) (k : Nat) (ps : List Str) (sp : Sp) : Prop := ∃ (f : Addr) (fd : FuncData), mg x = some (.ref f) ∧ PySem.W.keepIn K (.ref f) = true ∧ FnOk P w K mg base CX k f fd ps sp ∧ L2.Binds K fd ps []
/-- a method of a class -/
def MtG (P : Program) (w : World) (K : PySem.W.Frag) (mg : Str → Option Value) (base : Heap) (CX : CXT) (C : Addr) (x : Str) (k : Nat) (ps : List Str) (sp : Sp) : Prop := ∃ (f : Addr) (fd : FuncData), Meth K C x f ∧ FnOk P w K mg base CX k f fd ps sp ∧ L2.Binds K fd ps []
/-- what the law calls -/
structure Defs (P : Program) (w : World) (K : PySem.W.Frag) (mg : Str → Option Value) (base : Heap) (CC CE BS BG Pf : Addr) : Prop where
  T : Txt K mg CC CE
  rounds : FnG P w K mg base CX0 "_law_rounds" 2 ["_law_script", "_law_most"] (spRounds K)
  roll : FnG P w K mg base CX0 "_law_roll" 1 ["_law_dice_here", "_law_many"] spRoll
  full : FnG P w K mg base CX0 "_law_full" 2 ["_law_dice_here", "_law_many"] spFull
  part : FnG P w K mg base CX0 "_law_part" 3 ["_law_dice_here", "_law_many"] spPart2
  wait : FnG P w K mg base CX0 "wait_of" 1 ["slot", "inner_slot", "goal", "slots"] spWait
  needed : FnG P w K mg base CX0 "inner_needed" 1 ["slots", "moving"] spNeeded
  gE : mg "Exchange" = some (.ref CE)
  make : ∃ (f : Addr) (fd : FuncData), Mk K CE f ∧ FnOk P w K mg base (L2.CX P w) 3 f fd ["self", "lines", "slots", "inner"] (spXInit CE CC BS) ∧ L2.Binds K fd ["self", "lines", "slots", "inner"] []
  spot : MtG P w K mg base (L2.CX P w) CE "spot" 1 ["self", "line", "slot"] (spSpot CE CC BG)
  connect : MtG P w K mg base CX0 CE "connect" 5 ["self", "line", "slot", "other", "goal"] (spConnect CE CC)
  cut : MtG P w K mg base CX0 CE "part" 2 ["self", "line", "slot"] (spPart CE CC)
  reads : MtG P w K mg base CX0 CE "reads" 2 ["self", "line"] (spReads CE CC)
  writes : MtG P w K mg base CX0 CE "writes" 2 ["self", "line"] (spWrites CE CC)
  joins : MtG P w K mg base CX0 CE "joins" 2 ["self", "number"] (spJoins CE CC)
  frame : MtG P w K mg base (L2.CX P w) CE "frame" 3 ["self", "cells"] (spFrame K CE CC BS Pf)

/-- what is no list stays -/
def ExtL (H H' : Hp) : Prop := ∀ b o, H b = some o → (∀ xs, o ≠ .lst xs) → H' b = some o
theorem CallsAt.extL {H H' : Hp} {d : Addr} {c : List Call} (e : ExtL H H') (h : CallsAt H d c) : CallsAt H' d c := by
  obtain ⟨kvs, h1, h2⟩ := h
  refine ⟨kvs, e _ _ h1 (fun _ z => by cases z), paired_mono h2 fun a kv h => ?_⟩
  obtain ⟨q1, t, q2, q3⟩ := h
  exact ⟨q1, t, q2, e _ _ q3 (fun _ z => by cases z)⟩
theorem ExAt.extL {CE C : Addr} {H H' : Hp} {x n d : Addr} {l s i : Int} {c : List Call} (e : ExtL H H') (h : ExAt CE C H x n d l s i c) : ExAt CE C H' x n d l s i c := by
  obtain ⟨⟨dx, h1⟩, ⟨⟨dn, h2⟩, h3, h4⟩⟩ := h
  exact ⟨⟨dx, e _ _ h1 (fun _ z => by cases z)⟩, ⟨⟨dn, e _ _ h2 (fun _ z => by cases z)⟩, h3.extL e, h4⟩⟩
theorem SameBut.extL {p : Addr} {H H' : Hp} {xs : List V} (h : SameBut p H H') (hp : H p = some (.lst xs)) : ExtL H H' := fun b o e n => h b o (fun z => by
  rw [z, hp] at e
  exact n xs (Option.some.inj e).symm) e
/-- what the law knows of the heap: the dice, the exchange, the pairing, the two tables untouched -/
structure LH (CE CC : Addr) (H : Hp) (dc x n d pr Pl q Pf : Addr) (l s i : Int) (c : List Call) (ps : List (Option Int)) : Prop where
  dice : DiceAt H dc
  ex : ExAt CE CC H x n d l s i c
  gd : Good i s l c
  si : s ≤ i
  tp : H pr = some (.tup (ps.map ov))
  pk : PartOk (l * s) ps
  tl : H Pl = some (.tbl #[])
  tf : GxR.TabG H Pf
  lq : H q = some (.lst [.ref dc])
section
variable {CE CC : Addr} {H H' : Hp} {dc x n d pr Pl q Pf : Addr} {l s i : Int} {c c' : List Call} {ps : List (Option Int)}
theorem LH.extL (L : LH CE CC H dc x n d pr Pl q Pf l s i c ps) (e : ExtL H H') (hd : DiceAt H' dc) (hq : H' q = some (.lst [.ref dc])) : LH CE CC H' dc x n d pr Pl q Pf l s i c ps :=
  ⟨hd, L.ex.extL e, L.gd, L.si, e _ _ L.tp (fun _ z => by cases z), L.pk, e _ _ L.tl (fun _ z => by cases z), (let ⟨ps, h, g⟩ := L.tf; ⟨ps, e _ _ h (fun _ z => by cases z), g⟩), hq⟩
theorem LH.but (L : LH CE CC H dc x n d pr Pl q Pf l s i c ps) (e : SameBut dc H H') (hd : DiceAt H' dc) : LH CE CC H' dc x n d pr Pl q Pf l s i c ps := by
  obtain ⟨a, b, z, h⟩ := L.dice
  exact L.extL (e.extL h) hd (e _ _ (ne_of L.lq h (by intro z; cases z)) L.lq)
theorem LH.same (L : LH CE CC H dc x n d pr Pl q Pf l s i c ps) (e : Same H H') : LH CE CC H' dc x n d pr Pl q Pf l s i c ps := L.extL (fun b o h _ => e b o h) (L.dice.keep (e _)) (e _ _ L.lq)
theorem LH.dk (L : LH CE CC H dc x n d pr Pl q Pf l s i c ps) : ∃ kvs, H d = some (.dK kvs) := by
  obtain ⟨_, ⟨_, ⟨kvs, h, _⟩, _⟩⟩ := L.ex
  exact ⟨kvs, h⟩
theorem LH.bd (L : LH CE CC H dc x n d pr Pl q Pf l s i c ps) : 1 ≤ s ∧ s ≤ 3 ∧ 1 ≤ l ∧ l ≤ 3 ∧ 1 ≤ i ∧ i ≤ 4 := L.ex.net.bd
/-- other calls, the dict written -/
theorem LH.calls (L : LH CE CC H dc x n d pr Pl q Pf l s i c ps) (e : ∀ b o, b ≠ d → H b = some o → H' b = some o) (X : ExAt CE CC H' x n d l s i c') (G : Good i s l c') : LH CE CC H' dc x n d pr Pl q Pf l s i c' ps := by
  obtain ⟨kvs, hd⟩ := L.dk
  obtain ⟨a, b, z, h⟩ := L.dice
  exact ⟨⟨a, b, z, e _ _ (ne_of h hd (by intro z; cases z)) h⟩, X, G, L.si, e _ _ (ne_of L.tp hd (by intro z; cases z)) L.tp, L.pk, e _ _ (ne_of L.tl hd (by intro z; cases z)) L.tl, (let ⟨ps, h, g⟩ := L.tf; ⟨ps, e _ _ (ne_of h hd (by intro z; cases z)) h, g⟩), e _ _ (ne_of L.lq hd (by intro z; cases z)) L.lq⟩
/-- another table at Pf -/
theorem LH.sameB (L : LH CE CC H dc x n d pr Pl q Pf l s i c ps) (hne : Pl ≠ Pf) (e : SameB Pf H H') (g : GxR.TabG H' Pf) : LH CE CC H' dc x n d pr Pl q Pf l s i c ps := by
  obtain ⟨qs, hq, _⟩ := L.tf
  obtain ⟨a, b, z, h⟩ := L.dice
  exact ⟨⟨a, b, z, e _ _ (ne_of h hq (by intro z; cases z)) h⟩, L.ex.ext (e.extN hq), L.gd, L.si, e _ _ (ne_of L.tp hq (by intro z; cases z)) L.tp, L.pk, e _ _ hne L.tl, g, e _ _ (ne_of L.lq hq (by intro z; cases z)) L.lq⟩
end
theorem mul_9 {l s : Int} (h : 1 ≤ s ∧ s ≤ 3 ∧ 1 ≤ l ∧ l ≤ 3) : 1 ≤ l * s ∧ l * s ≤ 9 := by
  have : s = 1 ∨ s = 2 ∨ s = 3 := by omega
  have : l = 1 ∨ l = 2 ∨ l = 3 := by omega
  rcases ‹s = 1 ∨ s = 2 ∨ s = 3› with rfl | rfl | rfl <;> omega
section
variable {P : Program} {w : World} {K : PySem.W.Frag} {mg : Str → Option Value} {base : Heap} {f CC CE BS BG Pf : Addr} {cd : Value} {A : Around} {outer : List Env} {s0 : Shared} {H0 : Hp} {E : XK}
/-- row 0: lines and slots -/
theorem law0 (hr : Room 5 (A.deeper (envOfC "law" (defScope sLaw) s0.heap.objs.size f cd))) (D0 : Defs P w K mg base CC CE BS BG Pf) : ∃ t, PS (LX P w K mg base f cd A outer s0 H0 E) (lb 0) t ∧ ∀ (D : Ends) (v0 : Option V) (H : Hp) (dc : Addr) (r : List (Option V)), r.length = 24 → DiceAt H dc →
    (∀ (l s : Int) (H' : Hp), 1 ≤ l → l ≤ 3 → 1 ≤ s → s ≤ 3 → DiceAt H' dc → SameBut dc H H' → D.nx (v0 :: some (.ref dc) :: some (.int l) :: some (.int s) :: r) H') →
    t D (v0 :: some (.ref dc) :: none :: none :: r) H := by
  obtain ⟨fR, fdR, gR, kR, GR, bR⟩ := D0.roll
  have hr1 : Room 1 _ := hr.mono (by decide)
  refine ⟨_, ps_asg (pe_tup (pa_cons (pe_op op_add pe_int (pe_call GR hr1 rfl gR kR bR .nil pass0 (pa_cons (pv 1) (pa_cons pe_int pa_nil)))) (pa_cons (pe_op op_add pe_int (pe_call GR hr1 rfl gR kR bR .nil pass0 (pa_cons (pv 1) (pa_cons pe_int pa_nil)))) pa_nil)))
    (pg_tup rfl (pgs_cons (pg_name (i := 2) scLaw.nd rfl (Or.inr rfl)) (pgs_cons (pg_name (i := 3) scLaw.nd rfl (Or.inr rfl)) pgs_nil))), ?_⟩
  intro D v0 H dc r hrl hd k
  refine ⟨_, rfl, dc, 3, rfl, hd, by omega, by omega, fun a H1 ha0 ha1 hd1 e1 => ⟨_, _, rfl, rfl, ?_⟩⟩
  refine ⟨_, rfl, dc, 3, rfl, hd1, by omega, by omega, fun b H2 hb0 hb1 hd2 e2 => ⟨_, _, rfl, rfl, ?_⟩⟩
  refine ⟨(by show 2 ≤ sizeLine; decide), fun p hp => ?_⟩
  refine ⟨p, _, rfl, SqT.of upd_same, rfl, _, _, rfl, _, _, rfl, rfl, ?_⟩
  refine k _ _ _ (by omega) (by omega) (by omega) (by omega) (hd2.keep (same_new hp _)) ?_
  exact ((but_of e1).trans (but_of e2)).same (same_new hp)
/-- row 1: inner -/
theorem law1 (hr : Room 5 (A.deeper (envOfC "law" (defScope sLaw) s0.heap.objs.size f cd))) (D0 : Defs P w K mg base CC CE BS BG Pf) : ∃ t, PS (LX P w K mg base f cd A outer s0 H0 E) (lb 1) t ∧ ∀ (D : Ends) (v0 v4 : Option V) (H : Hp) (dc : Addr) (l s : Int) (r : List (Option V)), 1 ≤ s → s ≤ 3 → DiceAt H dc →
    (∀ (i : Int) (H' : Hp), s ≤ i → i ≤ s + 1 → DiceAt H' dc → SameBut dc H H' → D.nx (v0 :: some (.ref dc) :: some (.int l) :: some (.int s) :: some (.int i) :: r) H') →
    t D (v0 :: some (.ref dc) :: some (.int l) :: some (.int s) :: v4 :: r) H := by
  obtain ⟨fR, fdR, gR, kR, GR, bR⟩ := D0.roll
  have hr1 : Room 1 _ := hr.mono (by decide)
  refine ⟨_, ps_set (i := 4) scLaw.nd rfl (Or.inl rfl) (pe_op op_add (pv 3) (pe_call GR hr1 rfl gR kR bR .nil pass0 (pa_cons (pv 1) (pa_cons pe_int pa_nil)))), ?_⟩
  intro D v0 v4 H dc l s r hs1 hs3 hd k
  refine ⟨_, rfl, _, rfl, dc, 2, rfl, hd, by omega, by omega, fun a H1 ha0 ha1 hd1 e1 => ⟨_, _, rfl, rfl, ?_⟩⟩
  exact k _ _ (by omega) (by omega) hd1 (but_of e1)
/-- row 2: the exchange, the pairing -/
theorem law2 (hr : Room 5 (A.deeper (envOfC "law" (defScope sLaw) s0.heap.objs.size f cd))) (D0 : Defs P w K mg base CC CE BS BG Pf) : ∃ t, PS (LX P w K mg base f cd A outer s0 H0 E) (lb 2) t ∧ ∀ (D : Ends) (v0 v5 v6 : Option V) (H : Hp) (dc Pl q : Addr) (l s i : Int) (r : List (Option V)), r.length = 21 → 1 ≤ s → s ≤ 3 → 1 ≤ l → l ≤ 3 → s ≤ i → i ≤ s + 1 → DiceAt H dc →
    H Pl = some (.tbl #[]) → GxR.TabG H Pf → H q = some (.lst [.ref dc]) →
    (∀ (x n d pr : Addr) (ps : List (Option Int)) (H' : Hp), LH CE CC H' dc x n d pr Pl q Pf l s i [] ps → D.nx (v0 :: some (.ref dc) :: some (.int l) :: some (.int s) :: some (.int i) :: some (.ref x) :: some (.ref pr) :: r) H') →
    t D (v0 :: some (.ref dc) :: some (.int l) :: some (.int s) :: some (.int i) :: v5 :: v6 :: r) H := by
  obtain ⟨fP, fdP, gP, kP, GP, bP⟩ := D0.part
  obtain ⟨fM, fdM, MM, GM, bM⟩ := D0.make
  have hr3 : Room 3 _ := hr.mono (by decide)
  have hr4 : Room 4 _ := hr.mono (by decide)
  refine ⟨_, ps_asg (pe_tup (pa_cons (pe_make MM GM hr4 rfl D0.gE bM .nil passL (pa_cons (pv 2) (pa_cons (pv 3) (pa_cons (pv 4) pa_nil)))) (pa_cons (pe_call GP hr3 rfl gP kP bP .nil pass0 (pa_cons (pv 1) (pa_cons (pe_op op_mul (pv 2) (pv 3)) pa_nil))) pa_nil)))
    (pg_tup rfl (pgs_cons (pg_name (i := 5) scLaw.nd rfl (Or.inr rfl)) (pgs_cons (pg_name (i := 6) scLaw.nd rfl (Or.inr rfl)) pgs_nil))), ?_⟩
  intro D v0 v5 v6 H dc Pl q l s i r hrl hs1 hs3 hl1 hl3 hi1 hi2 hd hPl hPf hlq k
  have h9 := mul_9 (l := l) (s := s) ⟨hs1, hs3, hl1, hl3⟩
  refine ⟨_, rfl, _, rfl, _, rfl, fun x dx hx hdx hne => ⟨x, dx, l, s, i, rfl, upd_same, .inl ⟨⟨by omega, by omega, by omega, by omega, by omega, by omega⟩, fun n d H1 hn hdn X kp => ⟨rfl, ?_⟩⟩⟩⟩
  have S1 : Same H H1 := fun b o e => by
    have hbx : b ≠ x := ne_of_none e hx
    refine kp b o ?_ hbx
    rw [upd_ne hbx, upd_ne (ne_of_none e hdx)]
    exact e
  refine ⟨_, rfl, _, rfl, _, rfl, _, _, rfl, rfl, .inl ⟨by omega, by omega⟩, dc, l * s, rfl, hd.keep (S1 _), by omega, by omega, fun ps pr H2 hpk hd2 S2 hprn hpr => ?_⟩
  refine ⟨(by show 2 ≤ sizeLine; decide), fun p hp => ?_⟩
  refine ⟨p, _, rfl, SqT.of upd_same, rfl, _, _, rfl, _, _, rfl, rfl, ?_⟩
  obtain ⟨a, b, z, hdl⟩ := hd
  have EL : ExtL H1 H2 := S2.extL (S1 _ _ hdl)
  have L : LH CE CC H2 dc x n d pr Pl q Pf l s i [] ps := ⟨hd2, X.extL EL, good_nil, by omega, hpr, hpk, EL _ _ (S1 _ _ hPl) (fun _ z => by cases z), (let ⟨ps, h, g⟩ := hPf; ⟨ps, EL _ _ (S1 _ _ h) (fun _ z => by cases z), g⟩), S2 _ _ (ne_of hlq hdl (by intro z; cases z)) (S1 _ _ hlq)⟩
  exact k x n d pr ps _ (L.same (same_new hp))
/-- row 3: the order -/
theorem law3 (hr : Room 5 (A.deeper (envOfC "law" (defScope sLaw) s0.heap.objs.size f cd))) (D0 : Defs P w K mg base CC CE BS BG Pf) : ∃ t, PS (LX P w K mg base f cd A outer s0 H0 E) (lb 3) t ∧ ∀ (D : Ends) (v0 v5 v6 v7 : Option V) (H : Hp) (dc x n d pr Pl q : Addr) (l s i : Int) (c : List Call) (ps : List (Option Int)) (r : List (Option V)),
    LH CE CC H dc x n d pr Pl q Pf l s i c ps →
    (∀ (od : Addr) (os : List Int) (H' : Hp), LH CE CC H' dc x n d pr Pl q Pf l s i c ps → os.Perm (rangeZ (l * s)) → H' od = some (.tup (os.map V.int)) → D.nx (v0 :: some (.ref dc) :: some (.int l) :: some (.int s) :: some (.int i) :: v5 :: v6 :: some (.ref od) :: r) H') →
    t D (v0 :: some (.ref dc) :: some (.int l) :: some (.int s) :: some (.int i) :: v5 :: v6 :: v7 :: r) H := by
  obtain ⟨fF, fdF, gF, kF, GF, bF⟩ := D0.full
  have hr2 : Room 2 _ := hr.mono (by decide)
  refine ⟨_, ps_set (i := 7) scLaw.nd rfl (Or.inl rfl) (pe_call GF hr2 rfl gF kF bF .nil pass0 (pa_cons (pv 1) (pa_cons (pe_op op_mul (pv 2) (pv 3)) pa_nil))), ?_⟩
  intro D v0 v5 v6 v7 H dc x n d pr Pl q l s i c ps r L k
  have hb := L.bd
  have h9 := mul_9 (l := l) (s := s) ⟨hb.1, hb.2.1, hb.2.2.1, hb.2.2.2.1⟩
  refine ⟨_, rfl, _, rfl, _, rfl, _, _, rfl, rfl, .inl ⟨by omega, by omega⟩, dc, l * s, rfl, L.dice, by omega, by omega, fun os q H1 hperm hd1 S1 _ hq => ?_⟩
  exact k q os H1 (L.but S1 hd1) hperm hq
end
end Clx
/-! ## K20 -/
set_option Elab.async false
set_option linter.all false
set_option maxRecDepth 100000
set_option maxHeartbeats 4000000
set_option pp.maxSteps 1500
set_option pp.deepTerms false
/-! ### the law's connects -/
namespace Clx
open PySem PySem.Spec PyProof.Rows L2
def pgOf (ps : List (Option Int)) (o : Int) : Option (Int × Int) := match ps[o.toNat]? with
  | some (some z) => some (o, z)
  | _ => none
theorem pgOf_some {ps : List (Option Int)} {o : Int} {q : Int × Int} : pgOf ps o = some q ↔ q.1 = o ∧ ps[o.toNat]? = some (some q.2) := by
  unfold pgOf
  constructor
  · intro h
    split at h
    · next z hz =>
      obtain rfl := Option.some.inj h
      exact ⟨rfl, hz⟩
    · cases h
  · rintro ⟨h1, h2⟩
    rw [h2]
    show some (o, q.2) = some q
    rw [← h1]
theorem pgOf_none {ps : List (Option Int)} {o : Int} (h : ps[o.toNat]? = some none) : pgOf ps o = none := by
  unfold pgOf
  rw [h]
theorem pgOf_yes {ps : List (Option Int)} {o z : Int} (h : ps[o.toNat]? = some (some z)) : pgOf ps o = some (o, z) := by
  unfold pgOf
  rw [h]
/-- the calls are the pairs -/
def Link (c : List Call) (ps : List (Option Int)) : Prop := ∀ o g : Int, (∃ e ∈ c, e.one = o ∧ e.goal = g) ↔ (0 ≤ o ∧ ps[o.toNat]? = some (some g))
theorem mem_pg {c : List Call} {o g : Int} : (o, g) ∈ c.map Call.pg ↔ ∃ e ∈ c, e.one = o ∧ e.goal = g := by
  rw [List.mem_map]
  constructor
  · rintro ⟨e, he, h⟩
    have h : (e.one, e.goal) = (o, g) := h
    exact ⟨e, he, (Prod.mk.inj h).1, (Prod.mk.inj h).2⟩
  · rintro ⟨e, he, h1, h2⟩
    exact ⟨e, he, by show (e.one, e.goal) = (o, g); rw [h1, h2]⟩
theorem link_of {c : List Call} {ps : List (Option Int)} {os : List Int} {m : Int} (h : c.map Call.pg = os.filterMap (pgOf ps)) (hp : os.Perm (rangeZ m)) (hl : ps.length = m.toNat) : Link c ps := fun o g => by
  rw [← mem_pg, h, List.mem_filterMap]
  constructor
  · rintro ⟨o', ho', h2⟩
    obtain ⟨h3, h4⟩ := pgOf_some.mp h2
    have h3 : o = o' := h3
    subst h3
    exact ⟨(mem_rangeZ.mp (hp.mem_iff.mp ho')).1, h4⟩
  · rintro ⟨h1, h2⟩
    refine ⟨o, hp.mem_iff.mpr (mem_rangeZ.mpr ⟨h1, ?_⟩), pgOf_yes h2⟩
    have := (List.getElem?_eq_some_iff.mp h2).1
    omega
theorem dm (o s : Int) : o / s * s + o % s = o := by
  have := Int.mul_ediv_add_emod o s
  have h2 : s * (o / s) = o / s * s := Int.mul_comm _ _
  omega
/-- o is slot o % s of line o / s -/
theorem place {o l s : Int} (h0 : 0 ≤ o) (h1 : o < l * s) (hb : 1 ≤ s ∧ s ≤ 3) : (0 ≤ o / s ∧ o / s < l) ∧ (0 ≤ o % s ∧ o % s < s) := by
  rw [Int.mul_comm] at h1
  exact ⟨div_lt h0 h1 hb, Int.emod_nonneg _ (by omega), Int.emod_lt_of_pos _ (by omega)⟩
section
variable {P : Program} {w : World} {K : PySem.W.Frag} {mg : Str → Option Value} {base : Heap} {f CC CE BS BG Pf : Addr} {cd : Value} {A : Around} {outer : List Env} {s0 : Shared} {H0 : Hp} {E : XK}
theorem law4 (hr : Room 5 (A.deeper (envOfC "law" (defScope sLaw) s0.heap.objs.size f cd))) (D0 : Defs P w K mg base CC CE BS BG Pf) : ∃ t, PS (LX P w K mg base f cd A outer s0 H0 E) (lb 4) t ∧ ∀ (D : Ends) (v0 v8 v9 v10 v11 v12 : Option V) (H : Hp) (dc x n d pr od Pl q : Addr) (l s i : Int) (ps : List (Option Int)) (os : List Int) (r : List (Option V)),
    LH CE CC H dc x n d pr Pl q Pf l s i [] ps → os.Perm (rangeZ (l * s)) → H od = some (.tup (os.map V.int)) →
    (∀ (v11 v12 : Option V) (c : List Call) (H' : Hp), LH CE CC H' dc x n d pr Pl q Pf l s i c ps → Link c ps →
      D.nx (v0 :: some (.ref dc) :: some (.int l) :: some (.int s) :: some (.int i) :: some (.ref x) :: some (.ref pr) :: some (.ref od) :: v8 :: v9 :: v10 :: v11 :: v12 :: r) H') →
    t D (v0 :: some (.ref dc) :: some (.int l) :: some (.int s) :: some (.int i) :: some (.ref x) :: some (.ref pr) :: some (.ref od) :: v8 :: v9 :: v10 :: v11 :: v12 :: r) H := by
  obtain ⟨fC, fdC, mC, GC, bC⟩ := D0.connect
  refine ⟨_, ps_for PassesOwn.never rfl (pi_tup (pv 7)) (pg_name (i := 11) scLaw.nd rfl (Or.inl rfl))
    (pss_one (ps_if (pt_cmpR op_notN (pe_ix ix_tup (pv 6) (pv 11) (fun _ _ => rfl)) pe_non (nomark _))
      (pss_cons (ps_set (i := 12) scLaw.nd rfl (Or.inl rfl) (pe_meth (pv 5) D0.T.clE mC GC hr bC .nil pass0
          (pa_cons (pe_op op_fdiv (pv 11) (pv 3)) (pa_cons (pe_op op_mod (pv 11) (pv 3)) (pa_cons (pe_op op_fdiv (pe_ix ix_tup (pv 6) (pv 11) (fun _ _ => rfl)) (pv 3)) (pa_cons (pe_op op_mod (pe_ix ix_tup (pv 6) (pv 11) (fun _ _ => rfl)) (pv 3)) pa_nil))))))
        (pss_one (ps_if (PW.pt (pw_or (pt_cmpR op_lt (pv 12) pe_int (nomark _)) (pw_or1 (PW.pt (pw_and (pt_cmpR op_ge (pv 4) (pe_op op_sub (pe_op op_mul pe_int (pv 3)) pe_int) (nomark _)) (pw_and1 (pt_cmpR op_ne (pv 12) pe_int (nomark _))))))))
          (pss_one (ps_ret pe_bl)) pss_nil))) pss_nil)), ?_⟩
  intro D v0 v8 v9 v10 v11 v12 H dc x n d pr od Pl q l s i ps os r L hperm hod k
  have hb := L.bd
  have hnd : os.Nodup := hperm.nodup_iff.mpr (rangeZ_nodup _)
  refine ⟨_, rfl, od, rfl, ⟨_, SqT.of hod⟩, for_tup (K := K) (a := od) (xs := os.map V.int) (fun j σ Hc => ∃ (v11 v12 : Option V) (c : List Call), σ = v0 :: some (.ref dc) :: some (.int l) :: some (.int s) :: some (.int i) :: some (.ref x) :: some (.ref pr) :: some (.ref od) :: v8 :: v9 :: v10 :: v11 :: v12 :: r ∧
      LH CE CC Hc dc x n d pr Pl q Pf l s i c ps ∧ Hc od = some (.tup (os.map V.int)) ∧ c.map Call.pg = (os.take j).filterMap (pgOf ps))
    ⟨v11, v12, [], rfl, L, hod, rfl⟩ (fun j σ Hc _ ⟨_, _, _, _, _, h, _⟩ => SqT.of h) ?_ ?_⟩
  · rintro j y σ Hc hj ⟨v11, v12, c, rfl, Lc, hoc, hpg⟩
    obtain ⟨o, ho, rfl⟩ := map_get hj
    have hor := mem_rangeZ.mp (hperm.mem_iff.mp (List.mem_of_getElem? ho))
    obtain ⟨po, hpo⟩ : ∃ po, ps[o.toNat]? = some po := ⟨_, List.getElem?_eq_getElem (by rw [L.pk.len]; omega)⟩
    have hat : atI (ps.map ov) o = some (ov po) := at_of (j := o.toNat) (by omega) (by rw [List.getElem?_map, hpo] <;> rfl)
    have htk : (os.take (j + 1)).filterMap (pgOf ps) = (os.take j).filterMap (pgOf ps) ++ (pgOf ps o).toList := by
      rw [List.take_succ, ho, List.filterMap_append]
      show _ ++ [o].filterMap (pgOf ps) = _
      rw [List.filterMap_cons]
      cases pgOf ps o <;> rfl
    refine ⟨_, rfl, _, rfl, pr, _, o, ov po, rfl, rfl, SqT.of Lc.tp, hat, rfl, _, rfl, ?_⟩
    cases po with
    | none =>
      refine iteF ⟨_, _, c, rfl, Lc, hoc, ?_⟩
      rw [htk, pgOf_none hpo, hpg]
      exact (List.append_nil _).symm
    | some z =>
      refine iteT ?_
      have hzr := L.pk.bd _ _ hpo
      have p1 := place hor.1 hor.2 ⟨hb.1, hb.2.1⟩
      have p2 := place hzr.1 hzr.2 ⟨hb.1, hb.2.1⟩
      obtain ⟨⟨dx, hx⟩, _⟩ := id Lc.ex
      have noC : (xf l s i n).lookup ("connect" : Str) = none := xf_no _ _ _ _ (by decide +kernel)
      have hs0 : CDiv o s := ⟨by omega, by omega⟩
      have hs1 : CDiv z s := ⟨by omega, by omega⟩
      have key : ∀ e ∈ c, e.one ∈ os.take j ∧ ps[e.one.toNat]? = some (some e.goal) := fun e he => by
        have h1 : (e.one, e.goal) ∈ c.map Call.pg := mem_pg.mpr ⟨e, he, rfl, rfl⟩
        rw [hpg, List.mem_filterMap] at h1
        obtain ⟨o', h2, h3⟩ := h1
        obtain ⟨h4, h5⟩ := pgOf_some.mp h3
        have h4 : e.one = o' := h4
        rw [h4]
        exact ⟨h2, h5⟩
      have hno : ∀ e ∈ c, e.one ≠ o := fun e he h => by
        have h1 := (key e he).1
        rw [h] at h1
        obtain ⟨j2, hj2⟩ := List.mem_iff_getElem?.mp h1
        have hlt : j2 < j := by
          have := (List.getElem?_eq_some_iff.mp hj2).1
          rw [List.length_take] at this
          omega
        rw [List.getElem?_take_of_lt hlt] at hj2
        have := nd_ix hnd hj2 ho
        omega
      refine ⟨_, rfl, x, dx, _, rfl, hx, noC, _, rfl, _, rfl, _, _, rfl, rfl, hs0, _, rfl, _, rfl, _, _, rfl, rfl, hs0.1, _, rfl, _, rfl, pr, _, o, .int z, rfl, rfl, SqT.of Lc.tp, hat, _, rfl, _, _, rfl, rfl, hs1, _, rfl, _, rfl, pr, _, o, .int z, rfl, rfl, SqT.of Lc.tp, hat, _, rfl, _, _, rfl, rfl, hs1.1, ?_⟩
      refine ⟨x, n, d, l, s, i, c, o / s, o % s, z / s, z % s, rfl, Lc.ex, Lc.gd, Lc.si, p1.1, p1.2, p2.1, p2.2, ?_, ?_, fun c' m H' G' hpg' X' kp hm0 hmz => ?_⟩
      · intro e he
        rw [dm]
        exact hno e he
      · intro e he
        rw [dm]
        intro hz
        have h1 := (key e he).2
        rw [hz] at h1
        have h2 := L.pk.inj _ _ _ h1 hpo
        have h3 := (Lc.gd.bd e he).1
        exact hno e he (by omega)
      · rw [dm, dm] at hpg'
        have L' := Lc.calls kp X' G'
        obtain ⟨kvs, hdk⟩ := Lc.dk
        have fin : ∃ (v11 v12 : Option V) (c : List Call), ([v0, some (.ref dc), some (.int l), some (.int s), some (.int i), some (.ref x), some (.ref pr), some (.ref od), v8, v9, v10, some (.int o), some (.int m)] ++ r) = v0 :: some (.ref dc) :: some (.int l) :: some (.int s) :: some (.int i) :: some (.ref x) :: some (.ref pr) :: some (.ref od) :: v8 :: v9 :: v10 :: v11 :: v12 :: r ∧
            LH CE CC H' dc x n d pr Pl q Pf l s i c ps ∧ H' od = some (.tup (os.map V.int)) ∧ c.map Call.pg = (os.take (j + 1)).filterMap (pgOf ps) := by
          refine ⟨_, _, c', rfl, L', kp _ _ (ne_of hoc hdk (by intro z; cases z)) hoc, ?_⟩
          rw [htk, pgOf_yes hpo, hpg', hpg] <;> rfl
        refine ⟨_, rfl, _, _, rfl, rfl, _, rfl, ?_⟩
        rw [decide_eq_false (by omega)]
        refine iteF ⟨_, rfl, _, rfl, _, _, rfl, rfl, .inl ⟨by omega, by omega⟩, _, _, rfl, rfl, _, _, rfl, rfl, _, rfl, ?_⟩
        by_cases hbig : 2 * s - 1 ≤ i
        · rw [decide_eq_true hbig]
          refine iteT ⟨_, rfl, rfl, _, rfl, ?_⟩
          rw [decide_eq_true (congrArg V.int (hmz hbig))]
          exact iteF fin
        · rw [decide_eq_false hbig]
          exact iteF (iteF fin)
  · rintro σ Hc ⟨v11, v12, c, rfl, Lc, hoc, hpg⟩
    refine k v11 v12 c Hc Lc (link_of (os := os) ?_ hperm L.pk.len)
    rw [hpg, List.length_map, List.take_length]
end
end Clx
/-! ## K21 -/
set_option Elab.async false
set_option linter.all false
set_option maxRecDepth 100000
set_option maxHeartbeats 4000000
set_option pp.maxSteps 1500
set_option pp.deepTerms false
/-! ### the law's partings -/
namespace Clx
open PySem PySem.Spec PyProof.Rows L2
abbrev rNN : R2 := fun x y H Q => y = V.non ∧ Q (.bl (!decide (x = V.non))) H
/-- gates that part: calls' own, each once -/
structure GoneOk (ps : List (Option Int)) (m : Int) (gs : List Int) : Prop where
  nd : gs.Nodup
  bd : ∀ g ∈ gs, 0 ≤ g ∧ g < m ∧ ∃ z, ps[g.toNat]? = some (some z)
section
variable {P : Program} {w : World} {K : PySem.W.Frag} {mg : Str → Option Value} {base : Heap} {f CC CE BS BG Pf : Addr} {cd : Value} {A : Around} {outer : List Env} {s0 : Shared} {H0 : Hp} {E : XK}
theorem law5 (hr : Room 5 (A.deeper (envOfC "law" (defScope sLaw) s0.heap.objs.size f cd))) (D0 : Defs P w K mg base CC CE BS BG Pf) : ∃ t, PS (LX P w K mg base f cd A outer s0 H0 E) (lb 5) t ∧ ∀ (D : Ends) (σ : L2.St) (H : Hp) (dc x n d pr Pl q : Addr) (l s i : Int) (c : List Call) (ps : List (Option Int)),
    SL dc x pr l s i σ → LH CE CC H dc x n d pr Pl q Pf l s i c ps →
    (∀ (σ' : L2.St) (gd : Addr) (gs : List Int) (H' : Hp), SL dc x pr l s i σ' → σ'[8]? = some (some (.ref gd)) → LH CE CC H' dc x n d pr Pl q Pf l s i c ps → H' gd = some (.lst (gs.map V.int)) → gd ≠ dc → GoneOk ps (l * s) gs → D.nx σ' H') →
    t D σ H := by
  obtain ⟨fR, fdR, gR, kR, GR, bR⟩ := D0.roll
  have hr1 : Room 1 _ := hr.mono (by decide)
  refine ⟨_, ps_set (i := 8) scLaw.nd rfl (Or.inr rfl) (pe_lc (own := [("_law_one", 11)]) (g := gName 11) (tt := tAnd (tTest (tOp rNN (tOp (rIxT K) (tVar 6) (tVar 11)) (tC .non))) (tTest (tOp rEq (tCall spRoll [] E0 (tCons (tVar 1) (tCons (tC (.int 4)) tNil))) (tC (.int 0)))))
      (te := tVar 11) rfl scLaw.nd (pi_range1 rfl D0.T.gRange (pa_cons (pe_op op_mul (pv 2) (pv 3)) pa_nil)) (blkOk_by (N := NL) (sc := defScope sLaw) (by decide +kernel)) (fun _ _ _ _ _ => pg_name (i := 11) scLaw.nd rfl (Or.inl rfl))
      (fun _ _ _ _ _ => pts_one (PW.pt (pw_and (pt_cmpR op_notN (pe_ix ix_tup (pv 6) (pv 11) (fun _ _ => rfl)) pe_non (nomark _)) (pw_and1 (pt_cmpR op_eq (pe_call GR hr1 rfl gR kR bR .nil pass0 (pa_cons (pv 1) (pa_cons pe_int pa_nil))) pe_int (nomark _))))))
      (fun _ _ _ _ _ => pv 11)), ?_⟩
  intro D σ H dc x n d pr Pl q l s i c ps hσ L k
  obtain ⟨v0, v7, v8, v9, v10, v11, v12, v13, v14, v15, v16, v17, v18, v19, v20, v21, v22, v23, v24, v25, v26, v27, rfl⟩ := hσ
  have hb := L.bd
  have h9 := mul_9 (l := l) (s := s) ⟨hb.1, hb.2.1, hb.2.2.1, hb.2.2.2.1⟩
  refine ⟨_, rfl, _, rfl, _, _, rfl, rfl, .inl ⟨by omega, by omega⟩, l * s, rfl, by omega, by omega, fun D2 hD => ?_⟩
  have hDdc : D2 ≠ dc := fun z => by
    obtain ⟨a, b, u, h⟩ := L.dice
    rw [← z, hD] at h
    cases h
  refine lc_range (lo := 0) (n := (l * s).toNat) (fun j Hc => LH CE CC Hc dc x n d pr Pl q Pf l s i c ps ∧ ∃ gs : List Int, Hc D2 = some (.lst (gs.map V.int)) ∧ gs.length ≤ j ∧ gs.Nodup ∧ ∀ g ∈ gs, 0 ≤ g ∧ g < (j : Int) ∧ ∃ z, ps[g.toNat]? = some (some z))
    ⟨L.same (same_new hD), [], upd_same, Nat.le_refl _, List.nodup_nil, fun _ h => by cases h⟩ ?_ ?_
  · rintro j Hc hj ⟨Lc, gs, hg1, hg2, hg3, hg4⟩
    obtain ⟨po, hpo⟩ : ∃ po, ps[j]? = some po := ⟨_, List.getElem?_eq_getElem (by rw [L.pk.len]; omega)⟩
    have hz : (0 : Int) + (j : Int) = (j : Int) := by omega
    rw [hz]
    have up : ∀ g ∈ gs, 0 ≤ g ∧ g < ((j + 1 : Nat) : Int) ∧ ∃ z, ps[g.toNat]? = some (some z) := fun g hg => by
      have := hg4 g hg
      exact ⟨this.1, by omega, this.2.2⟩
    refine ⟨rfl, _, rfl, _, rfl, pr, _, (j : Int), ov po, rfl, rfl, SqT.of Lc.tp, at_of (j := j) rfl (by rw [List.getElem?_map, hpo] <;> rfl), rfl, _, rfl, ?_⟩
    cases po with
    | none => exact iteF ⟨Lc, gs, hg1, by omega, hg3, up⟩
    | some z =>
      refine iteT ⟨_, rfl, dc, 4, rfl, Lc.dice, by omega, by omega, fun v H2 hv0 hv1 hd2 e2 => ⟨rfl, _, rfl, ?_⟩⟩
      have L2' := Lc.but (but_of e2) hd2
      have hD2 : H2 D2 = some (.lst (gs.map V.int)) := by rw [e2 D2 hDdc]; exact hg1
      by_cases hv : v = 0
      · rw [decide_eq_true (congrArg V.int hv)]
        refine iteT ⟨_, rfl, _, hD2, small1000 (by rw [List.length_map]; omega), ?_, gs ++ [(j : Int)], by rw [upd_same, List.map_append] <;> rfl, by rw [List.length_append] <;> exact Nat.succ_le_succ hg2, ?_, fun g hg => ?_⟩
        · refine L2'.extL (fun b o hb2 hn => ?_) (hd2.keep fun o ho => by rw [upd_ne hDdc.symm]; exact ho) (by rw [upd_ne (ne_of_none L.lq hD)]; exact L2'.lq)
          rw [upd_ne (fun z => hn _ (by rw [z, hD2] at hb2; exact (Option.some.inj hb2).symm))]
          exact hb2
        · refine List.nodup_append.mpr ⟨hg3, by simp, fun a ha b hb2 => ?_⟩
          rw [List.mem_singleton.mp hb2]
          have := hg4 a ha
          omega
        · rcases List.mem_append.mp hg with q | q
          · exact up g q
          · rw [List.mem_singleton.mp q]
            exact ⟨by omega, by omega, z, by simpa using hpo⟩
      · rw [decide_eq_false (fun q => hv (V.int.inj q))]
        exact iteF ⟨L2', gs, hD2, by omega, hg3, up⟩
  · rintro Hc ⟨Lc, gs, hg1, hg2, hg3, hg4⟩
    refine k _ D2 gs Hc SL.mk rfl Lc hg1 hDdc ⟨hg3, fun g hg => ?_⟩
    have := hg4 g hg
    exact ⟨this.1, by omega, this.2.2⟩
end
end Clx
/-! ## K22 -/
set_option Elab.async false
set_option linter.all false
set_option maxRecDepth 100000
set_option maxHeartbeats 4000000
set_option pp.maxSteps 1500
set_option pp.deepTerms false
/-! ### the law's partings: the pairs that are left -/
namespace Clx
open PySem PySem.Spec PyProof.Rows L2
/-- the pairing without the gates that part -/
def cutPs (ps : List (Option Int)) (gs : List Int) : List (Option Int) := (List.range ps.length).map fun (k : Nat) => if (k : Int) ∈ gs then none else (ps[k]?).getD none
theorem cutPs_get {ps : List (Option Int)} {gs : List Int} {k : Nat} {z : Int} : (cutPs ps gs)[k]? = some (some z) ↔ (k : Int) ∉ gs ∧ ps[k]? = some (some z) := by
  unfold cutPs
  rw [List.getElem?_map]
  by_cases hk : k < ps.length
  · rw [List.getElem?_range hk]
    show some (if (k : Int) ∈ gs then none else (ps[k]?).getD none) = some (some z) ↔ _
    obtain ⟨po, hpo⟩ : ∃ po, ps[k]? = some po := ⟨_, List.getElem?_eq_getElem hk⟩
    by_cases hg : (k : Int) ∈ gs
    · rw [if_pos hg]
      exact ⟨fun h => (by cases h), fun h => (h.1 hg).elim⟩
    · rw [if_neg hg, hpo]
      show some po = some (some z) ↔ _
      exact ⟨fun h => ⟨hg, h⟩, fun h => h.2⟩
  · have h1 : (List.range ps.length)[k]? = none := by rw [List.getElem?_eq_none]; rw [List.length_range]; omega
    have h2 : ps[k]? = none := by rw [List.getElem?_eq_none]; omega
    rw [h1, h2]
    exact ⟨fun h => (by cases h), fun h => (by cases h.2)⟩
theorem cutPs_ok {ps : List (Option Int)} {gs : List Int} {m : Int} (h : PartOk m ps) : PartOk m (cutPs ps gs) :=
  ⟨by unfold cutPs; rw [List.length_map, List.length_range]; exact h.len, fun k z hk => h.bd k z (cutPs_get.mp hk).2, fun j k z h1 h2 => h.inj j k z (cutPs_get.mp h1).2 (cutPs_get.mp h2).2⟩
theorem cut_link {c : List Call} {ps : List (Option Int)} {gs : List Int} (h : Link c ps) : Link (c.filter fun e => decide (e.one ∉ gs)) (cutPs ps gs) := fun o g => by
  constructor
  · rintro ⟨e, he, h1, h2⟩
    obtain ⟨h3, h4⟩ := List.mem_filter.mp he
    obtain ⟨h5, h6⟩ := (h o g).mp ⟨e, h3, h1, h2⟩
    refine ⟨h5, cutPs_get.mpr ⟨?_, h6⟩⟩
    have h4 := of_decide_eq_true h4
    rw [h1] at h4
    rw [Int.toNat_of_nonneg h5]
    exact h4
  · rintro ⟨h5, h6⟩
    obtain ⟨h7, h8⟩ := cutPs_get.mp h6
    rw [Int.toNat_of_nonneg h5] at h7
    obtain ⟨e, he, h1, h2⟩ := (h o g).mpr ⟨h5, h8⟩
    exact ⟨e, List.mem_filter.mpr ⟨he, decide_eq_true (by rw [h1]; exact h7)⟩, h1, h2⟩
section
variable {P : Program} {w : World} {K : PySem.W.Frag} {mg : Str → Option Value} {base : Heap} {f CC CE BS BG Pf : Addr} {cd : Value} {A : Around} {outer : List Env} {s0 : Shared} {H0 : Hp} {E : XK}
theorem law6 (hr : Room 5 (A.deeper (envOfC "law" (defScope sLaw) s0.heap.objs.size f cd))) (D0 : Defs P w K mg base CC CE BS BG Pf) : ∃ t, PS (LX P w K mg base f cd A outer s0 H0 E) (lb 6) t ∧ ∀ (D : Ends) (σ : L2.St) (H : Hp) (dc x n d pr Pl q gd : Addr) (l s i : Int) (c : List Call) (ps : List (Option Int)) (gs : List Int),
    SL dc x pr l s i σ → σ[8]? = some (some (.ref gd)) → LH CE CC H dc x n d pr Pl q Pf l s i c ps → Link c ps → H gd = some (.lst (gs.map V.int)) → GoneOk ps (l * s) gs →
    (∀ (σ' : L2.St) (H' : Hp), SL dc x pr l s i σ' → σ'[8]? = some (some (.ref gd)) → LH CE CC H' dc x n d pr Pl q Pf l s i (c.filter fun e => decide (e.one ∉ gs)) ps → H' gd = some (.lst (gs.map V.int)) → D.nx σ' H') →
    t D σ H := by
  obtain ⟨fC, fdC, mC, GC, bC⟩ := D0.cut
  have hr2 : Room 2 _ := hr.mono (by decide)
  refine ⟨_, ps_for PassesOwn.never rfl (pi_list (pv 8)) (pg_name (i := 11) scLaw.nd rfl (Or.inl rfl))
    (pss_one (ps_expr (pe_meth (pv 5) D0.T.clE mC GC hr2 bC .nil pass0 (pa_cons (pe_op op_fdiv (pv 11) (pv 3)) (pa_cons (pe_op op_mod (pv 11) (pv 3)) pa_nil))))), ?_⟩
  intro D σ H dc x n d pr Pl q gd l s i c ps gs hσ h8 L hL hgd hG k
  obtain ⟨v0, v7, v8, v9, v10, v11, v12, v13, v14, v15, v16, v17, v18, v19, v20, v21, v22, v23, v24, v25, v26, v27, rfl⟩ := hσ
  obtain rfl : v8 = some (.ref gd) := Option.some.inj h8
  have hb := L.bd
  have noC : (xf l s i n).lookup ("part" : Str) = none := xf_no _ _ _ _ (by decide +kernel)
  refine ⟨_, rfl, gd, rfl, ⟨_, SqL.of hgd⟩, for_list (K := K) (a := gd) (xs := gs.map V.int) (fun j σ Hc => (∃ v11, σ = [v0, some (.ref dc), some (.int l), some (.int s), some (.int i), some (.ref x), some (.ref pr), v7, some (.ref gd), v9, v10, v11, v12, v13, v14, v15, v16, v17, v18, v19, v20, v21, v22, v23, v24, v25, v26, v27]) ∧ Hc gd = some (.lst (gs.map V.int)) ∧
      LH CE CC Hc dc x n d pr Pl q Pf l s i (c.filter fun e => decide (e.one ∉ gs.take j)) ps) ⟨⟨v11, rfl⟩, hgd, ?_⟩ (fun j σ Hc _ h => SqL.of h.2.1) ?_ ?_⟩
  · have e : (c.filter fun e => decide (e.one ∉ gs.take 0)) = c := List.filter_eq_self.mpr fun a _ => decide_eq_true (by simp)
    rw [e]
    exact L
  · rintro j y σ Hc hj ⟨⟨v11, rfl⟩, hgc, Lc⟩
    obtain ⟨o, ho, rfl⟩ := map_get hj
    have hom := List.mem_of_getElem? ho
    obtain ⟨o0, o1, z, hz⟩ := hG.bd o hom
    have p1 := place o0 o1 ⟨hb.1, hb.2.1⟩
    obtain ⟨⟨dx, hx⟩, _⟩ := id Lc.ex
    have hs0 : CDiv o s := ⟨by omega, by omega⟩
    obtain ⟨e, he, he1, he2⟩ := (hL o z).mpr ⟨o0, hz⟩
    have hnot : o ∉ gs.take j := fun hm => by
      obtain ⟨j2, hj2⟩ := List.mem_iff_getElem?.mp hm
      have hlt : j2 < j := by
        have := (List.getElem?_eq_some_iff.mp hj2).1
        rw [List.length_take] at this
        omega
      rw [List.getElem?_take_of_lt hlt] at hj2
      have := nd_ix hG.nd hj2 ho
      omega
    refine ⟨_, rfl, x, dx, _, rfl, hx, noC, _, rfl, _, rfl, _, _, rfl, rfl, hs0, _, rfl, _, rfl, _, _, rfl, rfl, hs0.1, x, n, d, l, s, i, _, o / s, o % s, rfl, Lc.ex, Lc.gd, p1.1, p1.2, ⟨e, List.mem_filter.mpr ⟨he, decide_eq_true (by rw [he1]; exact hnot)⟩, by rw [dm]; exact he1⟩, fun H' X' kp => ?_⟩
    obtain ⟨kvs, hdk⟩ := Lc.dk
    rw [dm] at X'
    refine ⟨⟨_, rfl⟩, kp _ _ (ne_of hgc hdk (by intro z; cases z)) hgc, ?_⟩
    have ef : (c.filter fun e => decide (e.one ∉ gs.take (j + 1))) = (c.filter fun e => decide (e.one ∉ gs.take j)).filter fun e => decide (e.one ≠ o) := by
      rw [List.filter_filter]
      refine List.filter_congr fun a _ => ?_
      rw [List.take_succ, ho, ← Bool.decide_and, decide_eq_decide]
      show a.one ∉ gs.take j ++ [o] ↔ _
      rw [List.mem_append, List.mem_singleton, not_or]
      exact And.comm
    rw [ef]
    exact Lc.calls kp X' (good_filter Lc.gd)
  · rintro σ Hc ⟨⟨v11, rfl⟩, hgc, Lc⟩
    rw [List.length_map, List.take_length] at Lc
    exact k _ Hc SL.mk rfl Lc hgc
theorem law7 (hr : Room 5 (A.deeper (envOfC "law" (defScope sLaw) s0.heap.objs.size f cd))) (D0 : Defs P w K mg base CC CE BS BG Pf) : ∃ t, PS (LX P w K mg base f cd A outer s0 H0 E) (lb 7) t ∧ ∀ (D : Ends) (σ : L2.St) (H : Hp) (dc x n d pr Pl q gd : Addr) (l s i : Int) (c : List Call) (ps : List (Option Int)) (gs : List Int),
    SL dc x pr l s i σ → σ[8]? = some (some (.ref gd)) → LH CE CC H dc x n d pr Pl q Pf l s i c ps → H gd = some (.lst (gs.map V.int)) →
    (∀ (σ' : L2.St) (pr' : Addr) (H' : Hp), SL dc x pr' l s i σ' → LH CE CC H' dc x n d pr' Pl q Pf l s i c (cutPs ps gs) → D.nx σ' H') →
    t D σ H := by
  refine ⟨_, ps_set (i := 6) scLaw.nd rfl (Or.inr rfl) (pe_callTy call_tuple_of (by rfl) D0.T.gTuple (by decide +kernel) (pa_cons (pe_lc (own := [("_law_one", 11)]) (g := gName 11) (tt := tYes)
      (te := tIf (tTest (tOp (rIn K false) (tVar 11) (tVar 8))) (tC .non) (tOp (rIxT K) (tVar 6) (tVar 11))) rfl scLaw.nd (pi_range1 rfl D0.T.gRange (pa_cons (pe_op op_mul (pv 2) (pv 3)) pa_nil)) (blkOk_by (N := NL) (sc := defScope sLaw) (by decide +kernel))
      (fun _ _ _ _ _ => pg_name (i := 11) scLaw.nd rfl (Or.inl rfl)) (fun _ _ _ _ _ => pts_nil)
      (fun _ _ _ _ _ => pe_ifExp (pt_cmpR op_in_seq (pv 11) (pv 8) (by rfl)) pe_non (pe_ix ix_tup (pv 6) (pv 11) (fun _ _ => rfl)))) pa_nil)), ?_⟩
  intro D σ H dc x n d pr Pl q gd l s i c ps gs hσ h8 L hgd k
  obtain ⟨v0, v7, v8, v9, v10, v11, v12, v13, v14, v15, v16, v17, v18, v19, v20, v21, v22, v23, v24, v25, v26, v27, rfl⟩ := hσ
  obtain rfl : v8 = some (.ref gd) := Option.some.inj h8
  have hb := L.bd
  have h9 := mul_9 (l := l) (s := s) ⟨hb.1, hb.2.1, hb.2.2.1, hb.2.2.2.1⟩
  refine ⟨_, rfl, _, rfl, _, _, rfl, rfl, .inl ⟨by omega, by omega⟩, l * s, rfl, by omega, by omega, fun D2 hD => ?_⟩
  refine lc_range (lo := 0) (n := (l * s).toNat) (fun j Hc => Same H Hc ∧ Hc D2 = some (.lst (((cutPs ps gs).take j).map ov))) ⟨same_new hD, upd_same⟩ ?_ ?_
  · rintro j Hc hj ⟨Sc, hD2⟩
    obtain ⟨po, hpo⟩ : ∃ po, ps[j]? = some po := ⟨_, List.getElem?_eq_getElem (by rw [L.pk.len]; omega)⟩
    have hz : (0 : Int) + (j : Int) = (j : Int) := by omega
    rw [hz]
    have hlen : (((cutPs ps gs).take j).map ov).length < sizeLine := small1000 (by rw [List.length_map, List.length_take]; omega)
    have hput : ∀ o : Option Int, (cutPs ps gs)[j]? = some o → Same H (upd Hc D2 (.lst (((cutPs ps gs).take j).map ov ++ [ov o]))) ∧ (upd Hc D2 (.lst (((cutPs ps gs).take j).map ov ++ [ov o]))) D2 = some (.lst (((cutPs ps gs).take (j + 1)).map ov)) := fun o ho => by
      refine ⟨fun b u hu => ?_, ?_⟩
      · rw [upd_ne (ne_of_none hu hD)]
        exact Sc b u hu
      · rw [upd_same, List.take_succ, ho, List.map_append] <;> rfl
    have hcut : (cutPs ps gs)[j]? = some (if (j : Int) ∈ gs then none else po) := by
      have hj2 : j < ps.length := by rw [L.pk.len]; exact hj
      unfold cutPs
      rw [List.getElem?_map, List.getElem?_range hj2]
      show some (if (j : Int) ∈ gs then none else (ps[j]?).getD none) = _
      rw [hpo] <;> rfl
    refine ⟨rfl, _, rfl, _, rfl, gd, _, rfl, .inl (SqL.of (Sc _ _ hgd)), rfl, flat_ints _, _, rfl, ?_⟩
    rw [if_neg (by decide), inV_ints]
    by_cases hg : (j : Int) ∈ gs
    · rw [decide_eq_true hg]
      rw [if_pos hg] at hcut
      exact iteT ⟨_, hD2, hlen, hput none hcut⟩
    · rw [decide_eq_false hg]
      rw [if_neg hg] at hcut
      exact iteF ⟨_, rfl, _, rfl, pr, _, (j : Int), ov po, rfl, rfl, SqT.of (Sc _ _ L.tp), at_of (j := j) rfl (by rw [List.getElem?_map, hpo] <;> rfl), _, hD2, hlen, hput po hcut⟩
  · rintro Hc ⟨Sc, hD2⟩
    have hcl : (cutPs ps gs).length = (l * s).toNat := (cutPs_ok (gs := gs) L.pk).len
    rw [← hcl, List.take_length] at hD2
    refine ⟨D2, _, rfl, .inl ⟨SqL.of hD2, fun p hp => ?_⟩⟩
    have L2' := (L.same Sc).same (same_new (o := .tup ((cutPs ps gs).map ov)) hp)
    exact k _ p _ SL.mk ⟨L2'.dice, L2'.ex, L2'.gd, L2'.si, upd_same, cutPs_ok L.pk, L2'.tl, L2'.tf, L2'.lq⟩
end
end Clx
/-! ## K23 -/
set_option Elab.async false
set_option linter.all false
set_option maxRecDepth 100000
set_option maxHeartbeats 4000000
set_option pp.maxSteps 1500
set_option pp.deepTerms false
/-! ### the frame that is due, as data; the cells -/
namespace Clx
open PySem PySem.Spec PyProof.Rows L2
def dCell : Option (Int × Int) → PyData
  | none => .none
  | some p => .tuple [.int p.1, .int p.2]
def dRow (os : List (Option (Int × Int))) : PyData := .tuple (os.map dCell)
def dGrid (rs : List (List (Option (Int × Int)))) : PyData := .tuple (rs.map dRow)
theorem eqvAll_map {α : Type} {f : α → PyData} (h : ∀ a, PyData.eqv (f a) (f a) = true) : ∀ l : List α, PyData.eqvAll (l.map f) (l.map f) = true
  | [] => rfl
  | a :: r => by
    rw [List.map_cons]
    show (PyData.eqv (f a) (f a) && PyData.eqvAll (r.map f) (r.map f)) = true
    rw [h a, eqvAll_map h r] <;> rfl
theorem layAll_map {α : Type} {f : α → PyData} (h : ∀ a, PyData.canLay0 (f a) = true) : ∀ l : List α, PyData.canLayAll0 (l.map f) = true
  | [] => rfl
  | a :: r => by
    rw [List.map_cons]
    show (PyData.canLay0 (f a) && PyData.canLayAll0 (r.map f)) = true
    rw [h a, layAll_map h r] <;> rfl
theorem depthAll_map {α : Type} {f : α → PyData} {n : Nat} (h : ∀ a, PyData.depth (f a) ≤ n) : ∀ l : List α, PyData.depthAll (l.map f) ≤ n
  | [] => Nat.zero_le _
  | a :: r => by
    rw [List.map_cons]
    show max (PyData.depth (f a)) (PyData.depthAll (r.map f)) ≤ n
    exact Nat.max_le.mpr ⟨h a, depthAll_map h r⟩
theorem eqv_cell (o : Option (Int × Int)) : PyData.eqv (dCell o) (dCell o) = true := by
  cases o with
  | none => rfl
  | some p =>
    show ((p.1 == p.1) && ((p.2 == p.2) && true)) = true
    simp
theorem lay_cell (o : Option (Int × Int)) : PyData.canLay0 (dCell o) = true := by
  cases o <;> rfl
theorem depth_cell (o : Option (Int × Int)) : PyData.depth (dCell o) ≤ 1 := by
  cases o with
  | none => exact Nat.zero_le _
  | some p => exact Nat.le_refl _
theorem eqv_grid (rs : List (List (Option (Int × Int)))) : PyData.eqv (dGrid rs) (dGrid rs) = true := eqvAll_map (f := dRow) (fun a => eqvAll_map eqv_cell a) rs
theorem shaped_grid (rs : List (List (Option (Int × Int)))) : SeqAt.shaped (dGrid rs) = true := by
  unfold SeqAt.shaped
  rw [Bool.and_eq_true]
  refine ⟨layAll_map (f := dRow) (fun a => layAll_map lay_cell a) rs, decide_eq_true ?_⟩
  have h1 : ∀ a : List (Option (Int × Int)), PyData.depth (dRow a) ≤ 2 := fun a => Nat.succ_le_succ (depthAll_map depth_cell a)
  have h2 : PyData.depth (dGrid rs) ≤ 3 := Nat.succ_le_succ (depthAll_map h1 rs)
  omega
/-- a place of a frame: none, or the cell (line, slot) -/
def CellO (H : Hp) (o : Option (Int × Int)) (v : V) : Prop := match o with
  | none => v = .non
  | some p => ∃ t : Addr, v = .ref t ∧ H t = some (.tup [.int p.1, .int p.2])
theorem CellO.same {H H' : Hp} {o : Option (Int × Int)} {v : V} (h : CellO H o v) (e : ∀ t xs, H t = some (.tup xs) → H' t = some (.tup xs)) : CellO H' o v := by
  cases o with
  | none => exact h
  | some p =>
    obtain ⟨t, h1, h2⟩ := h
    exact ⟨t, h1, e t _ h2⟩
theorem dp_cell {K : PySem.W.Frag} {H : Hp} {o : Option (Int × Int)} {v : V} (h : CellO H o v) : Dp K H v (dCell o) := by
  cases o with
  | none =>
    have h : v = .non := h
    rw [h]
    exact .non
  | some p =>
    obtain ⟨t, rfl, h2⟩ := h
    exact .tup (SqT.of h2) (.cons (.int _) (.cons (.int _) .nil))
theorem dpAll_of {α : Type} {K : PySem.W.Frag} {H : Hp} {f : α → PyData} : ∀ {l : List α} {vs : List V}, l.length = vs.length → (∀ (k : Nat) a v, l[k]? = some a → vs[k]? = some v → Dp K H v (f a)) → DpAll K H vs (l.map f)
  | [], [], _, _ => .nil
  | a :: r, v :: vs, hl, h => .cons (h 0 a v rfl rfl) (dpAll_of (Nat.succ.inj hl) fun k a' v' h1 h2 => h (k + 1) a' v' h1 h2)
/-- the tuples at ts are the rows of rs -/
theorem dp_grid {K : PySem.W.Frag} {H : Hp} {p : Addr} {ts : List Addr} {rs : List (List (Option (Int × Int)))} (hp : H p = some (.tup (ts.map V.ref))) (hl : rs.length = ts.length)
    (h : ∀ (k : Nat) r t, rs[k]? = some r → ts[k]? = some t → ∃ xs, H t = some (.tup xs) ∧ r.length = xs.length ∧ ∀ (j : Nat) o v, r[j]? = some o → xs[j]? = some v → CellO H o v) : Dp K H (.ref p) (dGrid rs) := by
  refine .tup (SqT.of hp) (dpAll_of (by rw [List.length_map]; exact hl) fun k r v hr hv => ?_)
  obtain ⟨t, ht, rfl⟩ := map_get hv
  obtain ⟨xs, h1, h2, h3⟩ := h k r t hr ht
  exact .tup (SqT.of h1) (dpAll_of h2 fun j o v ho hv => dp_cell (h3 j o v ho hv))
/-! #### rows 8, 9 -/
def compScope : Expr → Scope
  | .ListComp _ _ sc _ => sc
  | _ => defScope sLaw
def asgVal : Stmt → Expr
  | .Assign _ e _ => e
  | _ => .Constant .none 0 ⟨0, 0, 0, 0⟩
abbrev sc8 : Scope := relabel (compScope (asgVal (lb 8))) (envOfC "law" (defScope sLaw) 0 0 .none)
/-- a row of cells: (a, 0), (a, 1), .. -/
def RowC (H : Hp) (a : Int) (xs : List V) : Prop := ∀ (b : Nat) v, xs[b]? = some v → CellO H (some (a, (b : Int))) v
/-- the cells handed to the frame -/
structure CellsH (H : Hp) (ca : Addr) (rows : List Addr) (l s : Nat) : Prop where
  lst : H ca = some (.lst (rows.map V.ref))
  len : rows.length = l
  nD : ca ∉ rows
  row : ∀ (a : Nat) r, rows[a]? = some r → ∃ xs, H r = some (.lst xs) ∧ xs.length = s ∧ RowC H (a : Int) xs
theorem RowC.same {H H' : Hp} {a : Int} {xs : List V} (h : RowC H a xs) (e : ∀ t ys, H t = some (.tup ys) → H' t = some (.tup ys)) : RowC H' a xs := fun b v hb => (h b v hb).same e
theorem CellsH.same {H H' : Hp} {ca : Addr} {rows : List Addr} {l s : Nat} (h : CellsH H ca rows l s) (e : Same H H') : CellsH H' ca rows l s :=
  ⟨e _ _ h.lst, h.len, h.nD, fun a r hr => by
    obtain ⟨xs, h1, h2, h3⟩ := h.row a r hr
    exact ⟨xs, e _ _ h1, h2, h3.same fun t ys ht => e _ _ ht⟩⟩
section
variable {P : Program} {w : World} {K : PySem.W.Frag} {mg : Str → Option Value} {base : Heap} {f CC CE BS BG Pf : Addr} {cd : Value} {A : Around} {outer : List Env} {s0 : Shared} {H0 : Hp} {E : XK}
theorem law8 (hr : Room 5 (A.deeper (envOfC "law" (defScope sLaw) s0.heap.objs.size f cd))) (D0 : Defs P w K mg base CC CE BS BG Pf) : ∃ t, PS (LX P w K mg base f cd A outer s0 H0 E) (lb 8) t ∧ ∀ (D : Ends) (σ : L2.St) (H : Hp) (dc x n d pr Pl q : Addr) (l s i : Int) (c : List Call) (ps : List (Option Int)),
    SL dc x pr l s i σ → LH CE CC H dc x n d pr Pl q Pf l s i c ps →
    (∀ (σ' : L2.St) (ca : Addr) (rows : List Addr) (H' : Hp), SL dc x pr l s i σ' → σ'[9]? = some (some (.ref ca)) → LH CE CC H' dc x n d pr Pl q Pf l s i c ps → CellsH H' ca rows l.toNat s.toNat → D.nx σ' H') →
    t D σ H := by
  refine ⟨_, ps_setLc (i := 9) (own := [("_law_line", 13)]) (g := gName 13) (tt := tYes) (te := tLc (iRng1 (tCons (tVar 3) tNil)) (gName 14) tYes (tTup (tCons (tVar 13) (tCons (tVar 14) tNil))) [14])
      rfl scLaw.nd rfl rfl (sw_true rfl rfl rfl (by decide +kernel)) (pi_range1 rfl D0.T.gRange (pa_cons (pv 2) pa_nil)) (blkOk_by (N := NL) (sc := defScope sLaw) (by decide +kernel)) (fun _ _ _ _ _ => pg_name (i := 13) scLaw.nd rfl (Or.inr rfl)) (fun _ _ _ _ _ => pts_nil)
      (fun _ _ _ _ _ => pe_lc (own := [("_law_slot", 14)]) (g := gName 14) (tt := tYes) (te := tTup (tCons (tVar 13) (tCons (tVar 14) tNil))) rfl scLaw.nd (pi_range1 rfl D0.T.gRange (pa_cons (pv 3) pa_nil)) (blkOk_by (N := NL) (sc := sc8) (by decide +kernel))
        (fun _ _ _ _ _ => pg_name (i := 14) scLaw.nd rfl (Or.inl rfl)) (fun _ _ _ _ _ => pts_nil) (fun _ _ _ _ _ => pe_tup (pa_cons (pv 13) (pa_cons (pv 14) pa_nil)))), ?_⟩
  intro D σ H dc x n d pr Pl q l s i c ps hσ L k
  obtain ⟨v0, v7, v8, v9, v10, v11, v12, v13, v14, v15, v16, v17, v18, v19, v20, v21, v22, v23, v24, v25, v26, v27, rfl⟩ := hσ
  have hb := L.bd
  refine ⟨_, rfl, l, rfl, by omega, by omega, fun D2 hD => ?_⟩
  have hDn : ∀ {b : Addr} {o : HO}, H b = some o → b ≠ D2 := fun h => ne_of_none h hD
  refine lc_range (lo := 0) (n := l.toNat) (fun j Hc => Same H Hc ∧ ∃ rows, CellsH Hc D2 rows j s.toNat) ⟨same_new hD, [], upd_same, rfl, by simp, fun a r h => by simp at h⟩ ?_ ?_
  · rintro j Hc hj ⟨Sc, rows, C⟩
    have hz : (0 : Int) + (j : Int) = (j : Int) := by omega
    rw [hz]
    refine ⟨rfl, _, rfl, s, rfl, by omega, by omega, fun D3 hD3 => ?_⟩
    have hD32 : D3 ≠ D2 := (ne_of_none C.lst hD3).symm
    refine lc_range (lo := 0) (n := s.toNat) (fun m Hd => Same Hc Hd ∧ ∃ xs, Hd D3 = some (.lst xs) ∧ xs.length = m ∧ RowC Hd (j : Int) xs) ⟨same_new hD3, [], upd_same, rfl, fun b v h => by simp at h⟩ ?_ ?_
    · rintro m Hd hm ⟨Sd, xs, hx1, hx2, hx3⟩
      have hz : (0 : Int) + (m : Int) = (m : Int) := by omega
      rw [hz]
      refine ⟨rfl, _, rfl, _, rfl, (by show 2 ≤ sizeLine; decide), fun t ht => ?_⟩
      have htD3 : t ≠ D3 := (ne_of_none hx1 ht).symm
      refine ⟨xs, by rw [upd_ne htD3.symm]; exact hx1, small1000 (by omega), fun b u hu => ?_, xs ++ [.ref t], upd_same, by rw [List.length_append, hx2] <;> rfl, fun b v hb2 => ?_⟩
      · rw [upd_ne (ne_of_none hu hD3), upd_ne (ne_of_none (Sd _ _ hu) ht)]
        exact Sd _ _ hu
      · have kt : ∀ t2 ys, Hd t2 = some (.tup ys) → upd (upd Hd t (.tup [.int j, .int m])) D3 (.lst (xs ++ [.ref t])) t2 = some (.tup ys) := fun t2 ys h => by
          rw [upd_ne (ne_of h hx1 (by intro z; cases z)), upd_ne (ne_of_none h ht)]
          exact h
        by_cases hbm : b < m
        · rw [List.getElem?_append_left (by omega)] at hb2
          exact (hx3 b v hb2).same kt
        · have e : b = m := by
            have := (List.getElem?_eq_some_iff.mp hb2).1
            rw [List.length_append, List.length_singleton] at this
            omega
          subst e
          rw [List.getElem?_append_right (by omega), hx2, Nat.sub_self] at hb2
          obtain rfl : V.ref t = v := Option.some.inj hb2
          exact ⟨t, rfl, by rw [upd_ne htD3, upd_same]⟩
    · rintro Hd ⟨Sd, xs, hx1, hx2, hx3⟩
      have C2 := C.same Sd
      have h3r : D3 ∉ rows := fun z => by
        obtain ⟨a, ha⟩ := List.mem_iff_getElem?.mp z
        obtain ⟨ys, h1, _⟩ := C.row a D3 ha
        rw [h1] at hD3
        cases hD3
      refine ⟨_, C2.lst, small1000 (by rw [List.length_map, C.len]; omega), fun b u hu => ?_, rows ++ [D3], by rw [upd_same, List.map_append] <;> rfl, by rw [List.length_append, C.len] <;> rfl, fun z => ?_, fun a r hr2 => ?_⟩
      · rw [upd_ne (hDn hu)]
        exact Sd _ _ (Sc _ _ hu)
      · rcases List.mem_append.mp z with z | z
        · exact C.nD z
        · exact hD32 (List.mem_singleton.mp z).symm
      · have kt : ∀ t2 ys, Hd t2 = some (.tup ys) → upd Hd D2 (.lst (rows.map V.ref ++ [.ref D3])) t2 = some (.tup ys) := fun t2 ys h => by
          rw [upd_ne (ne_of h C2.lst (by intro z; cases z))]
          exact h
        by_cases haj : a < j
        · rw [List.getElem?_append_left (by rw [C.len]; exact haj)] at hr2
          obtain ⟨ys, h1, h2, h3⟩ := C2.row a r hr2
          refine ⟨ys, ?_, h2, h3.same kt⟩
          rw [upd_ne (fun (z : r = D2) => C.nD (by rw [← z]; exact List.mem_of_getElem? hr2))]
          exact h1
        · have e : a = j := by
            have := (List.getElem?_eq_some_iff.mp hr2).1
            rw [List.length_append, List.length_singleton, C.len] at this
            omega
          subst e
          rw [List.getElem?_append_right (by rw [C.len]; omega), C.len, Nat.sub_self] at hr2
          obtain rfl : D3 = r := Option.some.inj hr2
          exact ⟨xs, by rw [upd_ne hD32]; exact hx1, hx2, hx3.same kt⟩
  · rintro Hc ⟨Sc, rows, C⟩
    exact k _ D2 rows Hc SL.mk rfl (L.same Sc) C
end
end Clx
/-! ## K24 -/
set_option Elab.async false
set_option linter.all false
set_option maxRecDepth 100000
set_option maxHeartbeats 4000000
set_option pp.maxSteps 1500
set_option pp.deepTerms false
/-! ### the frame that is due, laid -/
namespace Clx
open PySem PySem.Spec PyProof.Rows L2
/-- the first gate below j whose goal is g -/
def owner (ps : List (Option Int)) (j : Nat) (g : Int) : Option Nat := (List.range j).find? fun k => decide (ps[k]? = some (some g))
theorem owner_succ {ps : List (Option Int)} {j : Nat} {g : Int} : owner ps (j + 1) g = (owner ps j g).or (if ps[j]? = some (some g) then some j else none) := by
  unfold owner
  rw [List.range_succ, List.find?_append, List.find?_singleton]
  by_cases h : ps[j]? = some (some g)
  · rw [if_pos h, decide_eq_true h] <;> rfl
  · rw [if_neg h, decide_eq_false h] <;> rfl
theorem owner_none {ps : List (Option Int)} {j : Nat} {g : Int} : owner ps j g = none ↔ ∀ k, k < j → ps[k]? ≠ some (some g) := by
  unfold owner
  rw [List.find?_eq_none]
  constructor
  · intro h k hk e
    exact h k (List.mem_range.mpr hk) (decide_eq_true e)
  · intro h k hk e
    exact h k (List.mem_range.mp hk) (of_decide_eq_true e)
theorem owner_some {ps : List (Option Int)} {j : Nat} {g : Int} {k : Nat} (h : owner ps j g = some k) : k < j ∧ ps[k]? = some (some g) :=
  ⟨List.mem_range.mp (List.mem_of_find?_eq_some h), of_decide_eq_true (List.find?_some (p := fun k => decide (ps[k]? = some (some g))) h)⟩
/-- what is due at goal g, of the gates below j -/
def dueO (ps : List (Option Int)) (s : Int) (j : Nat) (g : Int) : Option (Int × Int) := (owner ps j g).map fun k => ((k : Int) / s, (k : Int) % s)
/-- the rows that are due, as lists -/
structure DueAt (H : Hp) (os : List Addr) (l s : Int) (ps : List (Option Int)) (j : Nat) : Prop where
  len : (os.length : Int) = l
  row : ∀ (a : Nat) o, os[a]? = some o → ∃ xs, H o = some (.lst xs) ∧ (xs.length : Int) = s ∧ ∀ (b : Nat) v, xs[b]? = some v → CellO H (dueO ps s j ((a : Int) * s + (b : Int))) v
theorem due_zero {H0 H : Hp} {D : Addr} {os : List Addr} {l s : Int} {ps : List (Option Int)} (R : RowsNone H0 H D os l.toNat s.toNat) (hl : 0 ≤ l) (hs : 0 ≤ s) : DueAt H os l s ps 0 := by
  refine ⟨by have := R.len; omega, fun a o ho => ⟨_, R.row o (List.mem_of_getElem? ho), by rw [List.length_replicate]; omega, fun b v hv => ?_⟩⟩
  obtain ⟨h1, h2⟩ := List.getElem?_eq_some_iff.mp hv
  rw [List.getElem_replicate] at h2
  exact h2.symm
theorem DueAt.keep {H H' : Hp} {os : List Addr} {l s : Int} {ps : List (Option Int)} {j : Nat} (h : DueAt H os l s ps j) (e : Same H H') : DueAt H' os l s ps j :=
  ⟨h.len, fun a o ho => by
    obtain ⟨xs, h1, h2, h3⟩ := h.row a o ho
    exact ⟨xs, e _ _ h1, h2, fun b v hv => (h3 b v hv).same fun t ys ht => e _ _ ht⟩⟩
theorem due_skip {H : Hp} {os : List Addr} {l s : Int} {ps : List (Option Int)} {j : Nat} (h : DueAt H os l s ps j) (hj : ps[j]? = some none) : DueAt H os l s ps (j + 1) :=
  ⟨h.len, fun a o ho => by
    obtain ⟨xs, h1, h2, h3⟩ := h.row a o ho
    refine ⟨xs, h1, h2, fun b v hv => ?_⟩
    have e : dueO ps s (j + 1) ((a : Int) * s + (b : Int)) = dueO ps s j ((a : Int) * s + (b : Int)) := by
      unfold dueO
      rw [owner_succ, if_neg (by rw [hj]; intro z; cases z), Option.or_none]
    rw [e]
    exact h3 b v hv⟩
theorem due_put {H : Hp} {os : List Addr} {l s z : Int} {ps : List (Option Int)} {j : Nat} {o t : Addr} {xs : List V} (h : DueAt H os l s ps j) (hs : 1 ≤ s ∧ s ≤ 3) (hz0 : 0 ≤ z) (nd : os.Nodup) (hinj : ∀ (j k : Nat) z, ps[j]? = some (some z) → ps[k]? = some (some z) → j = k) (hj : ps[j]? = some (some z))
    (ho : os[(z / s).toNat]? = some o) (hx : H o = some (.lst xs)) (ht : H t = some (.tup [.int ((j : Int) / s), .int ((j : Int) % s)])) :
    DueAt (upd H o (.lst (xs.set (z % s).toNat (.ref t)))) os l s ps (j + 1) := by
  have h0 : 0 ≤ z / s := Int.ediv_nonneg hz0 (by omega)
  have h1 : 0 ≤ z % s := Int.emod_nonneg _ (by omega)
  have h2 : z % s < s := Int.emod_lt_of_pos _ (by omega)
  have hdm := dm z s
  have kt : ∀ t2 ys, H t2 = some (.tup ys) → (upd H o (.lst (xs.set (z % s).toNat (.ref t)))) t2 = some (.tup ys) := fun t2 ys q => by
    rw [upd_ne (ne_of q hx (by intro z; cases z))]
    exact q
  have other : ∀ g : Int, g ≠ z → dueO ps s (j + 1) g = dueO ps s j g := fun g hg => by
    unfold dueO
    rw [owner_succ, if_neg (by rw [hj]; intro e; exact hg (Option.some.inj (Option.some.inj e)).symm), Option.or_none]
  have self : dueO ps s (j + 1) z = some ((j : Int) / s, (j : Int) % s) := by
    have e : owner ps j z = none := owner_none.mpr fun k hk e => by
      have := hinj k j z e hj
      omega
    unfold dueO
    rw [owner_succ, e, if_pos hj] <;> rfl
  refine ⟨h.len, fun a o' ho' => ?_⟩
  obtain ⟨ys, q1, q2, q3⟩ := h.row a o' ho'
  by_cases ha : a = (z / s).toNat
  · subst ha
    rw [ho] at ho'
    obtain rfl := Option.some.inj ho'
    rw [hx] at q1
    obtain rfl : xs = ys := by injection Option.some.inj q1
    refine ⟨_, upd_same, by rw [List.length_set]; exact q2, fun b v hv => ?_⟩
    by_cases hb : b = (z % s).toNat
    · subst hb
      rw [List.getElem?_set_self (by omega)] at hv
      obtain rfl := Option.some.inj hv
      have e : (((z / s).toNat : Nat) : Int) * s + (((z % s).toNat : Nat) : Int) = z := by
        rw [Int.toNat_of_nonneg h0, Int.toNat_of_nonneg h1]
        exact hdm
      rw [e, self]
      exact ⟨t, rfl, kt _ _ ht⟩
    · rw [List.getElem?_set_ne (Ne.symm hb)] at hv
      rw [other _ (by rw [Int.toNat_of_nonneg h0]; omega)]
      exact (q3 b v hv).same kt
  · have noo : o' ≠ o := fun e => ha (nd_ix nd (e ▸ ho') ho)
    refine ⟨ys, by rw [upd_ne noo]; exact q1, q2, fun b v hv => ?_⟩
    have hbl := (List.getElem?_eq_some_iff.mp hv).1
    have ney : (a : Int) * s + (b : Int) ≠ z := fun e => by
      have e1 : z / s = (a : Int) := by
        rw [← e]
        have : ((a : Int) * s + (b : Int)) / s = (a : Int) + (b : Int) / s := by rw [Int.add_comm, Int.add_mul_ediv_right _ _ (by omega)] <;> omega
        rw [this, Int.ediv_eq_zero_of_lt (by omega) (by omega)]
        omega
      omega
    rw [other _ ney]
    exact (q3 b v hv).same kt
section
variable {P : Program} {w : World} {K : PySem.W.Frag} {mg : Str → Option Value} {base : Heap} {f CC CE BS BG Pf : Addr} {cd : Value} {A : Around} {outer : List Env} {s0 : Shared} {H0 : Hp} {E : XK}
theorem law9 (hr : Room 5 (A.deeper (envOfC "law" (defScope sLaw) s0.heap.objs.size f cd))) (D0 : Defs P w K mg base CC CE BS BG Pf) : ∃ t, PS (LX P w K mg base f cd A outer s0 H0 E) (lb 9) t ∧ ∀ (D : Ends) (σ : L2.St) (H : Hp) (dc x pr ca : Addr) (l s i : Int),
    SL dc x pr l s i σ → σ[9]? = some (some (.ref ca)) → (1 ≤ l ∧ l ≤ 3) → (1 ≤ s ∧ s ≤ 3) →
    (∀ (σ' : L2.St) (dd : Addr) (os : List Addr) (H' : Hp), SL dc x pr l s i σ' → σ'[9]? = some (some (.ref ca)) → σ'[10]? = some (some (.ref dd)) → RowsNone H H' dd os l.toNat s.toNat → D.nx σ' H') →
    t D σ H := by
  refine ⟨_, ps_setLc (i := 10) (own := [("_law_line", 13)]) (g := gName 13) (tt := tYes) (te := tOp rRep (tLst (tCons (tC .non) tNil)) (tVar 3))
      rfl scLaw.nd rfl rfl (sw_true rfl rfl rfl (by decide +kernel)) (pi_range1 rfl D0.T.gRange (pa_cons (pv 2) pa_nil)) (blkOk_by (N := NL) (sc := defScope sLaw) (by decide +kernel)) (fun _ _ _ _ _ => pg_name (i := 13) scLaw.nd rfl (Or.inl rfl)) (fun _ _ _ _ _ => pts_nil)
      (fun _ _ _ _ _ => pe_op op_rep (pe_lst (pa_cons pe_non pa_nil)) (pv 3)), ?_⟩
  intro D σ H dc x pr ca l s i hσ h9 hbl hbs k
  obtain ⟨v0, v7, v8, v9, v10, v11, v12, v13, v14, v15, v16, v17, v18, v19, v20, v21, v22, v23, v24, v25, v26, v27, rfl⟩ := hσ
  obtain rfl : v9 = some (.ref ca) := Option.some.inj h9
  refine ⟨_, rfl, l, rfl, by omega, by omega, fun D2 hD => ?_⟩
  refine lc_range (lo := 0) (n := l.toNat) (fun j Hc => ∃ os, RowsNone H Hc D2 os j s.toNat) ⟨[], .zero hD⟩ ?_ ?_
  · rintro j Hc hj ⟨os, R⟩
    refine ⟨rfl, (by show 1 ≤ sizeLine; decide), fun l1 hl1 => ?_⟩
    refine ⟨_, rfl, l1, s, _, rfl, rfl, upd_same, by omega, by omega, (by show 1 * s.toNat ≤ sizeLine; exact Nat.le_of_lt (small1000 (by omega))), fun fo hfo => ?_⟩
    rw [rep_none]
    have Rn := R.snoc hl1 hfo
    have hlD : (upd (upd Hc l1 (.lst [.non])) fo (.lst (List.replicate s.toNat .non))) D2 = some (.lst (os.map V.ref)) := (same_new hl1).trans (same_new hfo) _ _ R.lst
    exact ⟨_, hlD, small1000 (by rw [List.length_map, R.len]; omega), _, Rn⟩
  · rintro Hm ⟨os, R⟩
    exact k _ D2 os Hm SL.mk rfl rfl R
theorem law10 (hr : Room 5 (A.deeper (envOfC "law" (defScope sLaw) s0.heap.objs.size f cd))) (D0 : Defs P w K mg base CC CE BS BG Pf) : ∃ t, PS (LX P w K mg base f cd A outer s0 H0 E) (lb 10) t ∧ ∀ (D : Ends) (σ : L2.St) (Hb H : Hp) (dc x n d pr Pl q ca dd : Addr) (l s i : Int) (c : List Call) (ps : List (Option Int)) (rows os : List Addr),
    SL dc x pr l s i σ → σ[9]? = some (some (.ref ca)) → σ[10]? = some (some (.ref dd)) → LH CE CC Hb dc x n d pr Pl q Pf l s i c ps → RowsNone Hb H dd os l.toNat s.toNat →
    (∀ (σ' : L2.St) (H' : Hp), SL dc x pr l s i σ' → σ'[9]? = some (some (.ref ca)) → σ'[10]? = some (some (.ref dd)) → Same Hb H' → H' dd = some (.lst (os.map V.ref)) → DueAt H' os l s ps (l * s).toNat → D.nx σ' H') →
    t D σ H := by
  refine ⟨_, ps_for PassesOwn.never rfl (pi_range1 rfl D0.T.gRange (pa_cons (pe_op op_mul (pv 2) (pv 3)) pa_nil)) (pg_name (i := 11) scLaw.nd rfl (Or.inl rfl))
    (pss_one (ps_if (pt_cmpR op_notN (pe_ix ix_tup (pv 6) (pv 11) (fun _ _ => rfl)) pe_non (nomark _))
      (pss_one (ps_asg (pe_tup (pa_cons (pe_op op_fdiv (pv 11) (pv 3)) (pa_cons (pe_op op_mod (pv 11) (pv 3)) pa_nil)))
        (pg_sub (pe_ix ix_list (pv 10) (pe_op op_fdiv (pe_ix ix_tup (pv 6) (pv 11) (fun _ _ => rfl)) (pv 3)) (fun _ _ => rfl)) (pe_op op_mod (pe_ix ix_tup (pv 6) (pv 11) (fun _ _ => rfl)) (pv 3)) set_list))) pss_nil)), ?_⟩
  intro D σ Hb H dc x n d pr Pl q ca dd l s i c ps rows os hσ h9 h10 L R k
  obtain ⟨v0, v7, v8, v9, v10, v11, v12, v13, v14, v15, v16, v17, v18, v19, v20, v21, v22, v23, v24, v25, v26, v27, rfl⟩ := hσ
  obtain rfl : v9 = some (.ref ca) := Option.some.inj h9
  obtain rfl : v10 = some (.ref dd) := Option.some.inj h10
  have hb := L.bd
  have hm9 := mul_9 (l := l) (s := s) ⟨hb.1, hb.2.1, hb.2.2.1, hb.2.2.2.1⟩
  refine ⟨_, rfl, _, rfl, _, _, rfl, rfl, .inl ⟨by omega, by omega⟩, l * s, rfl, by omega, by omega, ?_⟩
  refine for_range (lo := 0) (n := (l * s).toNat) (fun j σ Hc => (∃ v11, σ = [v0, some (.ref dc), some (.int l), some (.int s), some (.int i), some (.ref x), some (.ref pr), v7, v8, some (.ref ca), some (.ref dd), v11, v12, v13, v14, v15, v16, v17, v18, v19, v20, v21, v22, v23, v24, v25, v26, v27]) ∧ Same Hb Hc ∧ Hc dd = some (.lst (os.map V.ref)) ∧ DueAt Hc os l s ps j)
    ⟨⟨v11, rfl⟩, R.sm, R.lst, due_zero R (by omega) (by omega)⟩ ?_ ?_
  · rintro j σ Hc hj ⟨⟨v11, rfl⟩, Sc, hdd, Du⟩
    have hz : (0 : Int) + (j : Int) = (j : Int) := by omega
    rw [hz]
    have Lc := L.same Sc
    obtain ⟨po, hpo⟩ : ∃ po, ps[j]? = some po := ⟨_, List.getElem?_eq_getElem (by rw [L.pk.len]; omega)⟩
    have hat : atI (ps.map ov) (j : Int) = some (ov po) := at_of (j := j) rfl (by rw [List.getElem?_map, hpo] <;> rfl)
    refine ⟨_, rfl, _, rfl, pr, _, (j : Int), ov po, rfl, rfl, SqT.of Lc.tp, hat, rfl, _, rfl, ?_⟩
    cases po with
    | none => exact iteF ⟨⟨_, rfl⟩, Sc, hdd, due_skip Du hpo⟩
    | some z =>
      have hzr := L.pk.bd _ _ hpo
      have p2 := place hzr.1 hzr.2 ⟨hb.1, hb.2.1⟩
      have hs0 : CDiv (j : Int) s := ⟨by omega, by omega⟩
      have hs1 : CDiv z s := ⟨by omega, by omega⟩
      refine iteT ⟨_, rfl, _, rfl, _, _, rfl, rfl, hs0, _, rfl, _, rfl, _, _, rfl, rfl, hs0.1, (by show 2 ≤ sizeLine; decide), fun t ht => ?_⟩
      have St : Same Hc (upd Hc t (.tup [.int ((j : Int) / s), .int ((j : Int) % s)])) := same_new ht
      have Du2 := Du.keep St
      obtain ⟨o, ho⟩ : ∃ o, os[(z / s).toNat]? = some o := ⟨_, List.getElem?_eq_getElem (by have := Du.len; omega)⟩
      have hom := List.mem_of_getElem? ho
      obtain ⟨xs, hx1, hx2, _⟩ := Du2.row _ o ho
      refine ⟨_, rfl, _, rfl, _, rfl, pr, _, (j : Int), .int z, rfl, rfl, SqT.of (St _ _ Lc.tp), hat, _, rfl, _, _, rfl, rfl, hs1, dd, os.map V.ref, z / s, .ref o, rfl, rfl, SqL.of (St _ _ hdd), at_of (j := (z / s).toNat) (by omega) (by rw [List.getElem?_map, ho] <;> rfl), ?_⟩
      refine ⟨_, rfl, _, rfl, pr, _, (j : Int), .int z, rfl, rfl, SqT.of (St _ _ Lc.tp), hat, _, rfl, _, _, rfl, rfl, hs1.1, o, xs, z % s, (z % s).toNat, rfl, rfl, hx1, ixN_nat p2.2.1 (by omega), ?_⟩
      refine ⟨⟨_, rfl⟩, fun b u hu => ?_, ?_, due_put Du2 ⟨hb.1, hb.2.1⟩ hzr.1 R.nd L.pk.inj hpo ho hx1 upd_same⟩
      · rw [upd_ne (ne_of_none hu (R.new o hom))]
        exact St _ _ (Sc _ _ hu)
      · rw [upd_ne (fun z : dd = o => R.nD (by rw [z]; exact hom))]
        exact St _ _ hdd
  · rintro σ Hc ⟨⟨v11, rfl⟩, Sc, hdd, Du⟩
    exact k _ Hc SL.mk rfl rfl Sc hdd Du
end
end Clx
/-! ## K25 -/
set_option Elab.async false
set_option linter.all false
set_option maxRecDepth 100000
set_option maxHeartbeats 4000000
set_option pp.maxSteps 1500
set_option pp.deepTerms false
/-! ### the frame against what is due -/
namespace Clx
open PySem PySem.Spec PyProof.Rows L2
/-- the frame as data -/
def gridOf (ps : List (Option Int)) (s : Int) (n l' s' : Nat) : List (List (Option (Int × Int))) := (List.range l').map fun (a : Nat) => (List.range s').map fun (b : Nat) => dueO ps s n ((a : Int) * s + (b : Int))
theorem gridOf_row {ps : List (Option Int)} {s : Int} {n l' s' k : Nat} {r : List (Option (Int × Int))} (h : (gridOf ps s n l' s')[k]? = some r) : k < l' ∧ r = (List.range s').map fun (b : Nat) => dueO ps s n ((k : Int) * s + (b : Int)) := by
  unfold gridOf at h
  rw [List.getElem?_map] at h
  by_cases hk : k < l'
  · rw [List.getElem?_range hk] at h
    exact ⟨hk, (Option.some.inj h).symm⟩
  · rw [List.getElem?_eq_none (by rw [List.length_range]; omega)] at h
    cases h
theorem gridOf_at {ps : List (Option Int)} {s : Int} {n s' k j : Nat} {o : Option (Int × Int)} (h : ((List.range s').map fun (b : Nat) => dueO ps s n ((k : Int) * s + (b : Int)))[j]? = some o) : j < s' ∧ o = dueO ps s n ((k : Int) * s + (j : Int)) := by
  rw [List.getElem?_map] at h
  by_cases hk : j < s'
  · rw [List.getElem?_range hk] at h
    exact ⟨hk, (Option.some.inj h).symm⟩
  · rw [List.getElem?_eq_none (by rw [List.length_range]; omega)] at h
    cases h
/-- the cell that stands at a, b -/
def cvOf (H : Hp) (rows : List Addr) (a b : Int) : V := match rows[a.toNat]? with
  | some r => (match H r with
    | some (.frz _ (.lst xs)) => xs.getD b.toNat .non
    | some (.lst xs) => xs.getD b.toNat .non
    | _ => .non)
  | none => .non
theorem cvOf_eq {H : Hp} {rows : List Addr} {a b : Int} {r : Addr} {xs : List V} {v : V} (h1 : rows[a.toNat]? = some r) (h2 : H r = some (.lst xs)) (h3 : xs[b.toNat]? = some v) : cvOf H rows a b = v := by
  unfold cvOf
  rw [h1]
  show (match H r with
    | some (.frz _ (.lst xs)) => xs.getD b.toNat .non
    | some (.lst xs) => xs.getD b.toNat .non
    | _ => .non) = v
  rw [h2]
  show xs.getD b.toNat .non = v
  rw [List.getD_eq_getElem?_getD, h3] <;> rfl
theorem CellsH.cell {H : Hp} {ca : Addr} {rows : List Addr} {l s : Int} (C : CellsH H ca rows l.toNat s.toNat) {a b : Int} (ha : 0 ≤ a ∧ a < l) (hb : 0 ≤ b ∧ b < s) : CellO H (some (a, b)) (cvOf H rows a b) := by
  obtain ⟨r, hr⟩ : ∃ r, rows[a.toNat]? = some r := ⟨_, List.getElem?_eq_getElem (by rw [C.len]; omega)⟩
  obtain ⟨xs, h1, h2, h3⟩ := C.row _ r hr
  obtain ⟨v, hv⟩ : ∃ v, xs[b.toNat]? = some v := ⟨_, List.getElem?_eq_getElem (by omega)⟩
  rw [cvOf_eq hr h1 hv]
  have h4 := h3 _ v hv
  rw [Int.toNat_of_nonneg ha.1, Int.toNat_of_nonneg hb.1] at h4
  exact h4
theorem CellsH.at_ {K : PySem.W.Frag} {H : Hp} {ca : Addr} {rows : List Addr} {l s : Int} (C : CellsH H ca rows l.toNat s.toNat) (hl : 0 ≤ l) (hs : 0 ≤ s) : CellsAt K H ca rows l s (cvOf H rows) := by
  refine ⟨SqL.of C.lst, by have := C.len; omega, fun r hr => ?_, fun a b ha hb => ?_⟩
  · obtain ⟨a, ha⟩ := List.mem_iff_getElem?.mp hr
    obtain ⟨xs, h1, h2, _⟩ := C.row a r ha
    exact ⟨xs, SqL.of h1, by omega⟩
  · obtain ⟨r, hr⟩ : ∃ r, rows[a]? = some r := ⟨_, List.getElem?_eq_getElem (by rw [C.len]; omega)⟩
    obtain ⟨xs, h1, h2, _⟩ := C.row _ r hr
    obtain ⟨v, hv⟩ : ∃ v, xs[b]? = some v := ⟨_, List.getElem?_eq_getElem (by omega)⟩
    refine ⟨r, xs, hr, SqL.of h1, ?_⟩
    rw [cvOf_eq (r := r) (xs := xs) (v := v) (by simpa using hr) h1 (by simpa using hv)]
    exact hv
theorem place_due {H : Hp} {c : List Call} {ps : List (Option Int)} {l s : Int} {cv : Int → Int → V} {a b : Nat} {xs : List V} {v : V} (hL : Link c ps) (hp : PartOk (l * s) ps) (hs : 1 ≤ s ∧ s ≤ 3) (hcv : ∀ a b : Int, 0 ≤ a ∧ a < l → 0 ≤ b ∧ b < s → CellO H (some (a, b)) (cv a b))
    (h : PlaceOk c s (fun _ => True) cv a b xs[b]?) (hv : xs[b]? = some v) : CellO H (dueO ps s (l * s).toNat ((a : Int) * s + (b : Int))) v := by
  unfold dueO
  cases ho : owner ps (l * s).toNat ((a : Int) * s + (b : Int)) with
  | some k =>
    obtain ⟨h1, h2⟩ := owner_some ho
    obtain ⟨e, he, e1, e2⟩ := (hL (k : Int) ((a : Int) * s + (b : Int))).mpr ⟨by omega, h2⟩
    have h3 := h.1 e he trivial e2
    rw [hv, e1] at h3
    obtain rfl := Option.some.inj h3
    have p1 := place (o := (k : Int)) (l := l) (s := s) (by omega) (by omega) hs
    exact hcv _ _ p1.1 p1.2
  | none =>
    have h3 := h.2 fun e he _ e2 => by
      obtain ⟨h1, h2⟩ := (hL e.one ((a : Int) * s + (b : Int))).mp ⟨e, he, rfl, e2⟩
      refine owner_none.mp ho e.one.toNat ?_ h2
      have := (List.getElem?_eq_some_iff.mp h2).1
      rw [hp.len] at this
      exact this
    rw [hv] at h3
    exact Option.some.inj h3
section
variable {P : Program} {w : World} {K : PySem.W.Frag} {mg : Str → Option Value} {base : Heap} {f CC CE BS BG Pf : Addr} {cd : Value} {A : Around} {outer : List Env} {s0 : Shared} {H0 : Hp} {E : XK}
theorem law11 (hr : Room 5 (A.deeper (envOfC "law" (defScope sLaw) s0.heap.objs.size f cd))) (D0 : Defs P w K mg base CC CE BS BG Pf) : ∃ t, PS (LX P w K mg base f cd A outer s0 H0 E) (lb 11) t ∧ ∀ (D : Ends) (σ : L2.St) (H : Hp) (dc x n d pr Pl q ca dd : Addr) (l s i : Int) (c : List Call) (ps : List (Option Int)) (rows os : List Addr),
    SL dc x pr l s i σ → σ[9]? = some (some (.ref ca)) → σ[10]? = some (some (.ref dd)) → LH CE CC H dc x n d pr Pl q Pf l s i c ps → Pl ≠ Pf → Link c ps → CellsH H ca rows l.toNat s.toNat → H dd = some (.lst (os.map V.ref)) → DueAt H os l s ps (l * s).toNat →
    (∀ (σ' : L2.St) (H' : Hp), SL dc x pr l s i σ' → LH CE CC H' dc x n d pr Pl q Pf l s i c ps → D.nx σ' H') →
    t D σ H := by
  obtain ⟨fF, fdF, mF, GF, bF⟩ := D0.frame
  have hr3 : Room 3 _ := hr.mono (by decide)
  refine ⟨_, ps_if (pt_cmpR (op_neD hr.units) (pe_meth (pv 5) D0.T.clE mF GF hr3 bF .nil passL (pa_cons (pv 9) pa_nil))
      (pe_callTy call_tuple_of (by rfl) D0.T.gTuple (by decide +kernel) (pa_cons (pe_lc (own := [("_law_row", 15)]) (g := gName 15) (tt := tYes)
          (te := tCB (fun xs H Q => ∃ p ys, xs = [.ref p] ∧ ((SqL K H p ys ∧ ∀ l, H l = none → Q (.ref l) (upd H l (.tup ys))) ∨ (SqT K H p ys ∧ Q (.ref p) H))) (tCons (tVar 15) tNil)) rfl scLaw.nd (pi_list (pv 10))
          (blkOk_by (N := NL) (sc := defScope sLaw) (by decide +kernel)) (fun _ _ _ _ _ => pg_name (i := 15) scLaw.nd rfl (Or.inl rfl)) (fun _ _ _ _ _ => pts_nil)
          (fun _ _ _ _ _ => pe_callTy call_tuple_of (by rfl) D0.T.gTuple (by decide +kernel) (pa_cons (pv 15) pa_nil))) pa_nil)) (nomark _))
    (pss_one (ps_ret pe_bl)) pss_nil, ?_⟩
  intro D σ H dc x n d pr Pl q ca dd l s i c ps rows os hσ h9 h10 L hPP hL C hdd Du k
  obtain ⟨v0, v7, v8, v9, v10, v11, v12, v13, v14, v15, v16, v17, v18, v19, v20, v21, v22, v23, v24, v25, v26, v27, rfl⟩ := hσ
  obtain rfl : v9 = some (.ref ca) := Option.some.inj h9
  obtain rfl : v10 = some (.ref dd) := Option.some.inj h10
  have hb := L.bd
  have noF : (xf l s i n).lookup ("frame" : Str) = none := xf_no _ _ _ _ (by decide +kernel)
  obtain ⟨⟨dx, hx⟩, _⟩ := id L.ex
  obtain ⟨qs, hPf, _⟩ := id L.tf
  refine ⟨_, rfl, x, dx, _, rfl, hx, noF, _, rfl, x, n, d, ca, l, s, i, c, rfl, L.ex, .inl ⟨rows, cvOf H rows, L.gd, C.at_ (by omega) (by omega), L.tf, fun p ts H1 SB TG1 hp Gr => ?_⟩⟩
  have L1 := L.sameB hPP SB TG1
  have keepL : ∀ {b : Addr} {xs : List V}, H b = some (.lst xs) → H1 b = some (.lst xs) := fun h => SB _ _ (ne_of h hPf (by intro z; cases z)) h
  have keepT : ∀ (b : Addr) (xs : List V), H b = some (.tup xs) → H1 b = some (.tup xs) := fun b xs h => SB _ _ (ne_of h hPf (by intro z; cases z)) h
  have hdd1 := keepL hdd
  refine ⟨_, rfl, dd, rfl, ⟨_, SqL.of hdd1⟩, fun D2 hD2 => ?_⟩
  refine lc_list (K := K) (a := dd) (xs := os.map V.ref) (fun k Hd => Same H1 Hd ∧ ∃ us : List Addr, Hd D2 = some (.lst (us.map V.ref)) ∧ us.length = k ∧ ∀ (a : Nat) t o, us[a]? = some t → os[a]? = some o → ∃ xs, H1 o = some (.lst xs) ∧ Hd t = some (.tup xs))
    ⟨same_new hD2, [], upd_same, rfl, fun a t o h => by simp at h⟩ (fun k Hd _ ⟨Sd, _⟩ => SqL.of (Sd _ _ hdd1)) ?_ ?_
  · rintro k y Hd hk ⟨Sd, us, ht1, ht2, ht3⟩
    obtain ⟨o, ho, rfl⟩ := map_get hk
    obtain ⟨xs, q1, q2, _⟩ := Du.row k o ho
    have q1 := keepL q1
    refine ⟨rfl, _, rfl, o, xs, rfl, .inl ⟨SqL.of (Sd _ _ q1), fun t ht => ?_⟩⟩
    have htD : t ≠ D2 := (ne_of_none ht1 ht).symm
    have hl : (upd Hd t (.tup xs)) D2 = some (.lst (us.map V.ref)) := by
      rw [upd_ne htD.symm]
      exact ht1
    refine ⟨_, hl, small1000 (by rw [List.length_map]; have := (List.getElem?_eq_some_iff.mp ho).1; have := Du.len; omega), fun b u hu => ?_, us ++ [t], by rw [upd_same, List.map_append] <;> rfl, by rw [List.length_append, ht2] <;> rfl, fun a t' o' h1' h2' => ?_⟩
    · rw [upd_ne (ne_of_none hu hD2), upd_ne (ne_of_none (Sd _ _ hu) ht)]
      exact Sd _ _ hu
    · by_cases hak : a < k
      · rw [List.getElem?_append_left (by omega)] at h1'
        obtain ⟨xs', r1, r2⟩ := ht3 a t' o' h1' h2'
        refine ⟨xs', r1, ?_⟩
        rw [upd_ne (ne_of r2 ht1 (by intro z; cases z)), upd_ne (ne_of_none r2 ht)]
        exact r2
      · have hak2 : a = k := by
          have := (List.getElem?_eq_some_iff.mp h1').1
          rw [List.length_append, List.length_singleton] at this
          omega
        subst hak2
        rw [List.getElem?_append_right (by omega), ht2, Nat.sub_self] at h1'
        obtain rfl : t = t' := Option.some.inj h1'
        rw [ho] at h2'
        obtain rfl := Option.some.inj h2'
        refine ⟨xs, q1, ?_⟩
        rw [upd_ne htD, upd_same]
  rintro Hd ⟨Sd, us, ht1, ht2, ht3⟩
  refine ⟨D2, us.map V.ref, rfl, .inl ⟨SqL.of ht1, fun q hq => ?_⟩⟩
  rw [List.length_map] at ht2
  have Sq : Same H1 (upd Hd q (.tup (us.map V.ref))) := Sd.trans (same_new hq)
  have hgl : (gridOf ps s (l * s).toNat l.toNat s.toNat).length = l.toNat := by unfold gridOf; rw [List.length_map, List.length_range]
  have dp1 : Dp K (upd Hd q (.tup (us.map V.ref))) (.ref p) (dGrid (gridOf ps s (l * s).toNat l.toNat s.toNat)) := by
    refine dp_grid (Sq _ _ hp) (by rw [hgl]; have := Gr.1; omega) fun a r t hr2 ht => ?_
    obtain ⟨ha, rfl⟩ := gridOf_row hr2
    obtain ⟨xs, g1, g2, g3⟩ := Gr.2 a t ht
    refine ⟨xs, Sq _ _ g1, by rw [List.length_map, List.length_range]; omega, fun b o v ho hv => ?_⟩
    obtain ⟨hb2, rfl⟩ := gridOf_at ho
    exact place_due hL L.pk ⟨hb.1, hb.2.1⟩ (fun a b ha hb => (C.cell ha hb).same fun t ys h => Sq _ _ (keepT t ys h)) (g3 b (by omega)) hv
  have dp2 : Dp K (upd Hd q (.tup (us.map V.ref))) (.ref q) (dGrid (gridOf ps s (l * s).toNat l.toNat s.toNat)) := by
    refine dp_grid upd_same (by rw [hgl, ht2]; have := Du.len; omega) fun a r t hr2 ht => ?_
    obtain ⟨ha, rfl⟩ := gridOf_row hr2
    obtain ⟨o, ho⟩ : ∃ o, os[a]? = some o := ⟨_, List.getElem?_eq_getElem (by have := Du.len; omega)⟩
    obtain ⟨xs, g1, g2⟩ := ht3 a t o ht ho
    obtain ⟨ys, e1, e2, e3⟩ := Du.row a o ho
    rw [keepL e1] at g1
    obtain rfl : ys = xs := by injection Option.some.inj g1
    refine ⟨ys, (same_new hq) _ _ g2, by rw [List.length_map, List.length_range]; omega, fun b o v ho2 hv => ?_⟩
    obtain ⟨hb2, rfl⟩ := gridOf_at ho2
    exact (e3 b v hv).same fun t ys h => Sq _ _ (keepT t ys h)
  refine ⟨_, _, dp1, dp2, shaped_grid _, shaped_grid _, _, rfl, ?_⟩
  rw [eqv_grid]
  exact iteF (k _ _ SL.mk (L1.same Sq))
end
end Clx
/-! ## K26 -/
set_option Elab.async false
set_option linter.all false
set_option maxRecDepth 100000
set_option maxHeartbeats 4000000
set_option pp.maxSteps 1500
set_option pp.deepTerms false
/-! ### a line's reads and writes, sorted: plain -/
namespace Clx
open PySem PySem.Spec PyProof.Rows L2
theorem sorted_same {a b a' b' : List Int} (ha : a.Nodup) (hb : b.Nodup) (h : ∀ v, v ∈ a ↔ v ∈ b) (pa : a'.Perm a) (pb : b'.Perm b) (sa : a'.Pairwise (· ≤ ·)) (sb : b'.Pairwise (· ≤ ·)) : a' = b' := by
  have p : a'.Perm b' := pa.trans (((List.perm_ext_iff_of_nodup ha hb).mpr h).trans pb.symm)
  exact p.eq_of_pairwise (fun x y _ _ h1 h2 => Int.le_antisymm h1 h2) sa sb
def nonN : V → Option Int
  | .int z => some z
  | _ => none
theorem nodup_filterMap_of {α β : Type} {f : α → Option β} : ∀ {l : List α}, (∀ (j k : Nat) x y z, l[j]? = some x → l[k]? = some y → f x = some z → f y = some z → j = k) → (l.filterMap f).Nodup
  | [], _ => List.nodup_nil
  | a :: r, h => by
    have ih : (r.filterMap f).Nodup := nodup_filterMap_of fun j k x y z h1 h2 h3 h4 => Nat.succ.inj (h (j + 1) (k + 1) x y z h1 h2 h3 h4)
    rw [List.filterMap_cons]
    cases e : f a with
    | none => exact ih
    | some b =>
      refine List.nodup_cons.mpr ⟨fun hm => ?_, ih⟩
      obtain ⟨y, hy, h2⟩ := List.mem_filterMap.mp hm
      obtain ⟨k, hk⟩ := List.mem_iff_getElem?.mp hy
      have := h 0 (k + 1) a y b rfl hk e h2
      omega
theorem filled_mem {sel : Call → Prop} {idx : Call → Nat} {f : Call → Int} {c : List Call} {n : Nat} {xs : List V} (F : Filled sel idx f c n xs) (hi : ∀ e ∈ c, sel e → idx e < n) (v : Int) : v ∈ xs.filterMap nonN ↔ ∃ e ∈ c, sel e ∧ f e = v := by
  rw [List.mem_filterMap]
  constructor
  · rintro ⟨x, hx, h⟩
    obtain ⟨k, hk⟩ := List.mem_iff_getElem?.mp hx
    have hkn : k < n := by
      have := (List.getElem?_eq_some_iff.mp hk).1
      rw [F.len] at this
      exact this
    by_cases hex : ∃ e ∈ c, sel e ∧ idx e = k
    · obtain ⟨e, he, hs, hik⟩ := hex
      have h2 := F.yes e he hs
      rw [hik, hk] at h2
      obtain rfl := Option.some.inj h2
      exact ⟨e, he, hs, Option.some.inj h⟩
    · have h2 := F.no k hkn fun e he hs hik => hex ⟨e, he, hs, hik⟩
      rw [hk] at h2
      obtain rfl := Option.some.inj h2
      cases h
  · rintro ⟨e, he, hs, rfl⟩
    exact ⟨_, List.mem_of_getElem? (F.yes e he hs), rfl⟩
theorem filled_nodup {sel : Call → Prop} {idx : Call → Nat} {f : Call → Int} {c : List Call} {n : Nat} {xs : List V} (F : Filled sel idx f c n xs) (hu : ∀ e ∈ c, ∀ e' ∈ c, sel e → sel e' → f e = f e' → e = e') : (xs.filterMap nonN).Nodup := by
  have back : ∀ (k : Nat) x z, xs[k]? = some x → nonN x = some z → ∃ e ∈ c, sel e ∧ idx e = k ∧ f e = z := fun k x z hk h => by
    have hkn : k < n := by
      have := (List.getElem?_eq_some_iff.mp hk).1
      rw [F.len] at this
      exact this
    by_cases hex : ∃ e ∈ c, sel e ∧ idx e = k
    · obtain ⟨e, he, hs, hik⟩ := hex
      have h2 := F.yes e he hs
      rw [hik, hk] at h2
      obtain rfl := Option.some.inj h2
      exact ⟨e, he, hs, hik, Option.some.inj h⟩
    · have h2 := F.no k hkn fun e he hs hik => hex ⟨e, he, hs, hik⟩
      rw [hk] at h2
      obtain rfl := Option.some.inj h2
      cases h
  refine nodup_filterMap_of fun j k x y z h1 h2 h3 h4 => ?_
  obtain ⟨e, he, hs, hi, hf⟩ := back j x z h1 h3
  obtain ⟨e', he', hs', hi', hf'⟩ := back k y z h2 h4
  rw [← hi, ← hi', hu e he e' he' hs hs' (hf.trans hf'.symm)]
/-- slots of line a that call -/
def mineF (ps : List (Option Int)) (s a : Int) (k : Nat) : Option Int := if (k : Int) / s = a then (match ps[k]? with
  | some (some _) => some ((k : Int) % s)
  | _ => none) else none
/-- slots of line a that are called -/
def theirsF (ps : List (Option Int)) (s a : Int) (k : Nat) : Option Int := match ps[k]? with
  | some (some z) => if z / s = a then some (z % s) else none
  | _ => none
theorem mineF_some {ps : List (Option Int)} {s a v : Int} {k : Nat} : mineF ps s a k = some v ↔ (k : Int) / s = a ∧ (∃ z, ps[k]? = some (some z)) ∧ (k : Int) % s = v := by
  unfold mineF
  by_cases h : (k : Int) / s = a
  · rw [if_pos h]
    cases hp : ps[k]? with
    | none => exact ⟨fun h => (by cases h), fun h => (by obtain ⟨_, ⟨z, h⟩, _⟩ := h; cases h)⟩
    | some o =>
      cases o with
      | none => exact ⟨fun h => (by cases h), fun h => (by obtain ⟨_, ⟨z, h⟩, _⟩ := h; cases h)⟩
      | some z => exact ⟨fun q => ⟨h, ⟨z, rfl⟩, Option.some.inj q⟩, fun q => by rw [← q.2.2]⟩
  · rw [if_neg h]
    exact ⟨fun h => (by cases h), fun q => (h q.1).elim⟩
theorem theirsF_some {ps : List (Option Int)} {s a v : Int} {k : Nat} : theirsF ps s a k = some v ↔ ∃ z, ps[k]? = some (some z) ∧ z / s = a ∧ z % s = v := by
  unfold theirsF
  cases hp : ps[k]? with
  | none => exact ⟨fun h => (by cases h), fun h => (by obtain ⟨z, h, _⟩ := h; cases h)⟩
  | some o =>
    cases o with
    | none => exact ⟨fun h => (by cases h), fun h => (by obtain ⟨z, h, _⟩ := h; cases h)⟩
    | some z =>
      by_cases h : z / s = a
      · show (if z / s = a then some (z % s) else none) = some v ↔ _
        rw [if_pos h]
        exact ⟨fun q => ⟨z, rfl, h, Option.some.inj q⟩, fun ⟨z', h1, h2, h3⟩ => by rw [Option.some.inj (Option.some.inj h1), h3]⟩
      · show (if z / s = a then some (z % s) else none) = some v ↔ _
        rw [if_neg h]
        exact ⟨fun h => (by cases h), fun ⟨z', h1, h2, h3⟩ => (h (by rw [Option.some.inj (Option.some.inj h1)]; exact h2)).elim⟩
theorem range_at {n j k : Nat} (h : (List.range n)[j]? = some k) : k = j ∧ j < n := by
  obtain ⟨h1, h2⟩ := List.getElem?_eq_some_iff.mp h
  rw [List.getElem_range] at h2
  rw [List.length_range] at h1
  exact ⟨h2.symm, h1⟩
theorem dm_inj {x y s : Int} (h1 : x / s = y / s) (h2 : x % s = y % s) : x = y := by
  rw [← dm x s, ← dm y s, h1, h2]
theorem mine_nodup {ps : List (Option Int)} {s a : Int} {n : Nat} : ((List.range n).filterMap (mineF ps s a)).Nodup := nodup_filterMap_of fun j k x y z h1 h2 h3 h4 => by
  obtain ⟨rfl, _⟩ := range_at h1
  obtain ⟨rfl, _⟩ := range_at h2
  obtain ⟨a1, _, a3⟩ := mineF_some.mp h3
  obtain ⟨b1, _, b3⟩ := mineF_some.mp h4
  have := dm_inj (a1.trans b1.symm) (a3.trans b3.symm)
  omega
theorem theirs_nodup {ps : List (Option Int)} {s a m : Int} {n : Nat} (hp : PartOk m ps) : ((List.range n).filterMap (theirsF ps s a)).Nodup := nodup_filterMap_of fun j k x y z h1 h2 h3 h4 => by
  obtain ⟨rfl, _⟩ := range_at h1
  obtain ⟨rfl, _⟩ := range_at h2
  obtain ⟨u, a1, a2, a3⟩ := theirsF_some.mp h3
  obtain ⟨v, b1, b2, b3⟩ := theirsF_some.mp h4
  obtain rfl := dm_inj (a2.trans b2.symm) (a3.trans b3.symm)
  exact hp.inj _ _ _ a1 b1
theorem mine_mem {c : List Call} {ps : List (Option Int)} {s a m v : Int} (hL : Link c ps) (hp : PartOk m ps) : v ∈ (List.range m.toNat).filterMap (mineF ps s a) ↔ ∃ e ∈ c, e.one / s = a ∧ e.one % s = v := by
  rw [List.mem_filterMap]
  constructor
  · rintro ⟨k, hk, h⟩
    obtain ⟨h1, ⟨z, h2⟩, h3⟩ := mineF_some.mp h
    obtain ⟨e, he, e1, e2⟩ := (hL (k : Int) z).mpr ⟨by omega, h2⟩
    exact ⟨e, he, by rw [e1]; exact h1, by rw [e1]; exact h3⟩
  · rintro ⟨e, he, h1, h2⟩
    obtain ⟨h3, h4⟩ := (hL e.one e.goal).mp ⟨e, he, rfl, rfl⟩
    have h5 := (List.getElem?_eq_some_iff.mp h4).1
    rw [hp.len] at h5
    refine ⟨e.one.toNat, List.mem_range.mpr h5, mineF_some.mpr ?_⟩
    rw [Int.toNat_of_nonneg h3]
    exact ⟨h1, ⟨_, h4⟩, h2⟩
theorem theirs_mem {c : List Call} {ps : List (Option Int)} {s a m v : Int} (hL : Link c ps) (hp : PartOk m ps) : v ∈ (List.range m.toNat).filterMap (theirsF ps s a) ↔ ∃ e ∈ c, e.goal / s = a ∧ e.goal % s = v := by
  rw [List.mem_filterMap]
  constructor
  · rintro ⟨k, hk, h⟩
    obtain ⟨z, h2, h3, h4⟩ := theirsF_some.mp h
    obtain ⟨e, he, e1, e2⟩ := (hL (k : Int) z).mpr ⟨by omega, h2⟩
    exact ⟨e, he, by rw [e2]; exact h3, by rw [e2]; exact h4⟩
  · rintro ⟨e, he, h1, h2⟩
    obtain ⟨h3, h4⟩ := (hL e.one e.goal).mp ⟨e, he, rfl, rfl⟩
    have h5 := (List.getElem?_eq_some_iff.mp h4).1
    rw [hp.len] at h5
    exact ⟨e.one.toNat, List.mem_range.mpr h5, theirsF_some.mpr ⟨_, h4, h1, h2⟩⟩
end Clx
/-! ## K27 -/
set_option Elab.async false
set_option linter.all false
set_option maxRecDepth 100000
set_option maxHeartbeats 4000000
set_option pp.maxSteps 1500
set_option pp.deepTerms false
/-! ### the law's lines: what is read, what is written -/
namespace Clx
open PySem PySem.Spec PyProof.Rows L2
abbrev lc12 (i : Nat) : Stmt := (forBody (lb 12)).getD i (.Pass ⟨0, 0, 0, 0⟩)
theorem lc12_eq : forBody (lb 12) = [lc12 0, lc12 1, lc12 2, lc12 3, lc12 4] := by rfl
/-- reads and writes of line a -/
def RdAt (H : Hp) (rd : Addr) (s a i : Int) (c : List Call) (xs : List V) : Prop := H rd = some (.tup xs) ∧ Filled (fun e => e.one / s = a) (fun e => e.mid.toNat) (fun e => e.one % s) c i.toNat xs
def WrAt (H : Hp) (wr : Addr) (s a i : Int) (c : List Call) (ys : List V) : Prop := H wr = some (.tup ys) ∧ Filled (fun e => e.goal / s = a) (fun e => e.mid.toNat) (fun e => e.goal % s) c i.toNat ys
abbrev ttNN : TT := tTest (tOp rNN (tVar 14) (tC .non))
abbrev tNN (K : PySem.W.Frag) (j : Nat) : TE := tCB (rSorted K) (tCons (tLc (iTup K (tVar j)) (gName 14) ttNN (tVar 14) [14]) tNil)
theorem nonN_lc {K : PySem.W.Frag} {σ : L2.St} {H : Hp} {Q : VK} {j : Nat} {t : Addr} {xs : List V} (hl : 14 < σ.length) (hj : σ[j]? = some (some (.ref t))) (hjn : j ≠ 14) (ht : H t = some (.tup xs)) (hx : ∀ v ∈ xs, v = .non ∨ ∃ z, v = .int z) (h64 : xs.length < 64)
    (k : ∀ (ns : List Int) (p : Addr) (H' : Hp), ns.Perm (xs.filterMap nonN) → ns.Pairwise (· ≤ ·) → Same H H' → H' p = some (.lst (ns.map V.int)) → Q (.ref p) H') : tNN K j σ H Q := by
  refine ⟨_, hj, t, rfl, ⟨_, SqT.of ht⟩, fun D hD => ?_⟩
  have hn : ∀ n : Nat, (xs.take n).length ≤ xs.length := fun n => by rw [List.length_take]; omega
  have hw : wipe σ [14] = σ.set 14 none := rfl
  have hfl : ∀ l : List V, (l.filterMap nonN).length ≤ l.length := fun l => List.length_filterMap_le _ _
  refine lc_tup (K := K) (a := t) (xs := xs) (fun m Hc => Same H Hc ∧ Hc D = some (.lst (((xs.take m).filterMap nonN).map V.int))) ⟨same_new hD, upd_same⟩ (fun m Hc _ h => SqT.of (h.1 _ _ ht)) ?_ ?_
  · rintro m y Hc hm ⟨Sc, hc⟩
    have htk : (xs.take (m + 1)).filterMap nonN = (xs.take m).filterMap nonN ++ (nonN y).toList := by
      rw [List.take_succ, hm, List.filterMap_append]
      show _ ++ [y].filterMap nonN = _
      rw [List.filterMap_cons]
      cases nonN y <;> rfl
    have hg : ((wipe σ [14]).set 14 (some y))[14]? = some (some y) := by
      rw [hw, List.getElem?_set_self (by rw [List.length_set]; exact hl)]
    refine ⟨?_, _, hg, rfl, _, rfl, ?_⟩
    · show ((wipe σ [14]).set 14 (some y)).set 14 none = σ.set 14 none
      rw [hw, List.set_set, List.set_set]
    · rcases hx y (List.mem_of_getElem? hm) with rfl | ⟨z, rfl⟩
      · refine iteF ⟨Sc, ?_⟩
        rw [htk, hc]
        show _ = some (HO.lst (((xs.take m).filterMap nonN ++ []).map V.int))
        rw [List.append_nil]
      · refine iteT ⟨_, hg, _, hc, small1000 ?_, fun b u hu => ?_, ?_⟩
        · rw [List.length_map]
          have := hfl (xs.take m)
          have := hn m
          omega
        · rw [upd_ne (ne_of_none hu hD)]
          exact Sc _ _ hu
        · rw [upd_same, htk, List.map_append] <;> rfl
  · rintro Hc ⟨Sc, hc⟩
    rw [List.take_length] at hc
    refine ⟨D, _, rfl, SqL.of hc, by have := hfl xs; omega, fun ns p hp hs hpn => k ns p _ hp hs (Sc.trans (same_new hpn)) upd_same⟩
section
variable {P : Program} {w : World} {K : PySem.W.Frag} {mg : Str → Option Value} {base : Heap} {f CC CE BS BG Pf : Addr} {cd : Value} {A : Around} {outer : List Env} {s0 : Shared} {H0 : Hp} {E : XK}
theorem law12a (hr : Room 5 (A.deeper (envOfC "law" (defScope sLaw) s0.heap.objs.size f cd))) (D0 : Defs P w K mg base CC CE BS BG Pf) : ∃ t, PS (LX P w K mg base f cd A outer s0 H0 E) (lc12 0) t ∧ ∀ (D : Ends) (σ : L2.St) (H : Hp) (dc x n d pr Pl q : Addr) (l s i a : Int) (c : List Call) (ps : List (Option Int)),
    SL dc x pr l s i σ → σ[13]? = some (some (.int a)) → LH CE CC H dc x n d pr Pl q Pf l s i c ps →
    (∀ (σ' : L2.St) (rd wr : Addr) (xs ys : List V) (H' : Hp), SL dc x pr l s i σ' → σ'[13]? = some (some (.int a)) → σ'[16]? = some (some (.ref rd)) → σ'[17]? = some (some (.ref wr)) → LH CE CC H' dc x n d pr Pl q Pf l s i c ps → RdAt H' rd s a i c xs → WrAt H' wr s a i c ys → D.nx σ' H') →
    t D σ H := by
  obtain ⟨fR, fdR, mR, GR, bR⟩ := D0.reads
  obtain ⟨fW, fdW, mW, GW, bW⟩ := D0.writes
  have hr2 : Room 2 _ := hr.mono (by decide)
  refine ⟨_, ps_par (i := 16) (j := 17) rfl scLaw.nd rfl rfl (by decide) rfl rfl (pa_cons (pe_meth (pv 5) D0.T.clE mR GR hr2 bR .nil pass0 (pa_cons (pv 13) pa_nil)) (pa_cons (pe_meth (pv 5) D0.T.clE mW GW hr2 bW .nil pass0 (pa_cons (pv 13) pa_nil)) pa_nil)) (by rfl), ?_⟩
  intro D σ H dc x n d pr Pl q l s i a c ps hσ h13 L k
  obtain ⟨v0, v7, v8, v9, v10, v11, v12, v13, v14, v15, v16, v17, v18, v19, v20, v21, v22, v23, v24, v25, v26, v27, rfl⟩ := hσ
  obtain rfl : v13 = some (.int a) := Option.some.inj h13
  have noR : (xf l s i n).lookup ("reads" : Str) = none := xf_no _ _ _ _ (by decide +kernel)
  have noW : (xf l s i n).lookup ("writes" : Str) = none := xf_no _ _ _ _ (by decide +kernel)
  obtain ⟨⟨dx, hx⟩, _⟩ := id L.ex
  refine ⟨_, rfl, x, dx, _, rfl, hx, noR, _, rfl, x, n, d, l, s, i, c, a, rfl, L.ex, L.gd, fun xs rd H1 F1 S1 _ h1 => ?_⟩
  refine ⟨_, rfl, x, dx, _, rfl, S1 _ _ hx, noW, _, rfl, x, n, d, l, s, i, c, a, rfl, L.ex.same S1, L.gd, fun ys wr H2 F2 S2 _ h2 => ⟨_, _, rfl, ?_⟩⟩
  exact k _ rd wr xs ys H2 SL.mk rfl rfl rfl ((L.same S1).same S2) ⟨S2 _ _ h1, F1⟩ ⟨h2, F2⟩
theorem law12b (hr : Room 5 (A.deeper (envOfC "law" (defScope sLaw) s0.heap.objs.size f cd))) (D0 : Defs P w K mg base CC CE BS BG Pf) : ∃ t, PS (LX P w K mg base f cd A outer s0 H0 E) (lc12 1) t ∧ ∀ (D : Ends) (σ : L2.St) (H : Hp) (dc x n d pr Pl q rd wr : Addr) (l s i a : Int) (c : List Call) (ps : List (Option Int)),
    SL dc x pr l s i σ → σ[13]? = some (some (.int a)) → σ[16]? = some (some (.ref rd)) → σ[17]? = some (some (.ref wr)) → LH CE CC H dc x n d pr Pl q Pf l s i c ps →
    (∀ (σ' : L2.St) (mn : Addr) (ns : List Int) (H' : Hp), SL dc x pr l s i σ' → σ'[13]? = some (some (.int a)) → σ'[16]? = some (some (.ref rd)) → σ'[17]? = some (some (.ref wr)) → σ'[18]? = some (some (.ref mn)) → Same H H' →
      H' mn = some (.lst (ns.map V.int)) → ns.Perm ((List.range (l * s).toNat).filterMap (mineF ps s a)) → ns.Pairwise (· ≤ ·) → D.nx σ' H') →
    t D σ H := by
  refine ⟨_, ps_set (i := 18) scLaw.nd rfl (Or.inl rfl) (pe_callB cr_sorted (by rfl) D0.T.gSorted (by decide +kernel) (pa_cons (pe_lc (own := [("_law_one", 11)]) (g := gName 11)
      (tt := tAnd (tTest (tOp rEq (tOp (rI CDiv fun i j => .int (i / j)) (tVar 11) (tVar 3)) (tVar 13))) (tTest (tOp rNN (tOp (rIxT K) (tVar 6) (tVar 11)) (tC .non))))
      (te := tOp (rI (fun _ j => 0 < j) fun i j => .int (i % j)) (tVar 11) (tVar 3)) rfl scLaw.nd (pi_range1 rfl D0.T.gRange (pa_cons (pe_op op_mul (pv 2) (pv 3)) pa_nil)) (blkOk_by (N := NL) (sc := defScope sLaw) (by decide +kernel)) (fun _ _ _ _ _ => pg_name (i := 11) scLaw.nd rfl (Or.inl rfl))
      (fun _ _ _ _ _ => pts_one (PW.pt (pw_and (pt_cmpR op_eq (pe_op op_fdiv (pv 11) (pv 3)) (pv 13) (nomark _)) (pw_and1 (pt_cmpR op_notN (pe_ix ix_tup (pv 6) (pv 11) (fun _ _ => rfl)) pe_non (nomark _))))))
      (fun _ _ _ _ _ => pe_op op_mod (pv 11) (pv 3))) pa_nil)), ?_⟩
  intro D σ H dc x n d pr Pl q rd wr l s i a c ps hσ h13 h16 h17 L k
  obtain ⟨v0, v7, v8, v9, v10, v11, v12, v13, v14, v15, v16, v17, v18, v19, v20, v21, v22, v23, v24, v25, v26, v27, rfl⟩ := hσ
  obtain rfl : v13 = some (.int a) := Option.some.inj h13
  obtain rfl : v16 = some (.ref rd) := Option.some.inj h16
  obtain rfl : v17 = some (.ref wr) := Option.some.inj h17
  have hb := L.bd
  have h9 := mul_9 (l := l) (s := s) ⟨hb.1, hb.2.1, hb.2.2.1, hb.2.2.2.1⟩
  refine ⟨_, rfl, _, rfl, _, _, rfl, rfl, .inl ⟨by omega, by omega⟩, l * s, rfl, by omega, by omega, fun D2 hD => ?_⟩
  refine lc_range (lo := 0) (n := (l * s).toNat) (fun j Hc => Same H Hc ∧ Hc D2 = some (.lst (((List.range j).filterMap (mineF ps s a)).map V.int))) ⟨same_new hD, upd_same⟩ ?_ ?_
  · rintro j Hc hj ⟨Sc, hc⟩
    obtain ⟨po, hpo⟩ : ∃ po, ps[j]? = some po := ⟨_, List.getElem?_eq_getElem (by rw [L.pk.len]; omega)⟩
    have hz : (0 : Int) + (j : Int) = (j : Int) := by omega
    rw [hz]
    have htk : (List.range (j + 1)).filterMap (mineF ps s a) = (List.range j).filterMap (mineF ps s a) ++ (mineF ps s a j).toList := by
      rw [List.range_succ, List.filterMap_append, List.filterMap_cons]
      cases mineF ps s a j <;> rfl
    have hno : mineF ps s a j = none → Same H Hc ∧ Hc D2 = some (.lst (((List.range (j + 1)).filterMap (mineF ps s a)).map V.int)) := fun e => by
      rw [htk, e]
      show _ ∧ Hc D2 = some (HO.lst (((List.range j).filterMap (mineF ps s a) ++ []).map V.int))
      rw [List.append_nil]
      exact ⟨Sc, hc⟩
    refine ⟨rfl, _, rfl, _, rfl, _, _, rfl, rfl, ⟨by omega, by omega⟩, _, rfl, rfl, _, rfl, ?_⟩
    by_cases hq : (j : Int) / s = a
    · rw [decide_eq_true (congrArg V.int hq)]
      refine ⟨_, rfl, _, rfl, pr, _, (j : Int), ov po, rfl, rfl, SqT.of (Sc _ _ L.tp), at_of (j := j) rfl (by rw [List.getElem?_map, hpo] <;> rfl), rfl, _, rfl, ?_⟩
      cases po with
      | none =>
        refine iteF (hno ?_)
        unfold mineF
        rw [if_pos hq, hpo]
      | some z =>
        have e : mineF ps s a j = some ((j : Int) % s) := mineF_some.mpr ⟨hq, ⟨z, hpo⟩, rfl⟩
        refine iteT ⟨_, rfl, _, rfl, _, _, rfl, rfl, (by omega), _, hc, small1000 ?_, fun b u hu => ?_, ?_⟩
        · rw [List.length_map]
          have := List.length_filterMap_le (mineF ps s a) (List.range j)
          rw [List.length_range] at this
          omega
        · rw [upd_ne (ne_of_none hu hD)]
          exact Sc _ _ hu
        · rw [upd_same, htk, e, List.map_append] <;> rfl
    · rw [decide_eq_false (fun z => hq (V.int.inj z))]
      refine iteF (hno ?_)
      unfold mineF
      rw [if_neg hq]
  · rintro Hc ⟨Sc, hc⟩
    refine ⟨D2, _, rfl, SqL.of hc, ?_, fun ns p hp hs hpn => ?_⟩
    · have := List.length_filterMap_le (mineF ps s a) (List.range (l * s).toNat)
      rw [List.length_range] at this
      omega
    · exact k _ p ns _ SL.mk rfl rfl rfl rfl (Sc.trans (same_new hpn)) upd_same hp hs
theorem law12c (hr : Room 5 (A.deeper (envOfC "law" (defScope sLaw) s0.heap.objs.size f cd))) (D0 : Defs P w K mg base CC CE BS BG Pf) : ∃ t, PS (LX P w K mg base f cd A outer s0 H0 E) (lc12 2) t ∧ ∀ (D : Ends) (σ : L2.St) (H : Hp) (dc x n d pr Pl q rd wr mn : Addr) (l s i a : Int) (c : List Call) (ps : List (Option Int)),
    SL dc x pr l s i σ → σ[13]? = some (some (.int a)) → σ[16]? = some (some (.ref rd)) → σ[17]? = some (some (.ref wr)) → σ[18]? = some (some (.ref mn)) → LH CE CC H dc x n d pr Pl q Pf l s i c ps →
    (∀ (σ' : L2.St) (th : Addr) (ns : List Int) (H' : Hp), SL dc x pr l s i σ' → σ'[13]? = some (some (.int a)) → σ'[16]? = some (some (.ref rd)) → σ'[17]? = some (some (.ref wr)) → σ'[18]? = some (some (.ref mn)) → σ'[19]? = some (some (.ref th)) → Same H H' →
      H' th = some (.lst (ns.map V.int)) → ns.Perm ((List.range (l * s).toNat).filterMap (theirsF ps s a)) → ns.Pairwise (· ≤ ·) → D.nx σ' H') →
    t D σ H := by
  refine ⟨_, ps_set (i := 19) scLaw.nd rfl (Or.inl rfl) (pe_callB cr_sorted (by rfl) D0.T.gSorted (by decide +kernel) (pa_cons (pe_lc (own := [("_law_one", 11)]) (g := gName 11)
      (tt := tAnd (tTest (tOp rNN (tOp (rIxT K) (tVar 6) (tVar 11)) (tC .non))) (tTest (tOp rEq (tOp (rI CDiv fun i j => .int (i / j)) (tOp (rIxT K) (tVar 6) (tVar 11)) (tVar 3)) (tVar 13))))
      (te := tOp (rI (fun _ j => 0 < j) fun i j => .int (i % j)) (tOp (rIxT K) (tVar 6) (tVar 11)) (tVar 3)) rfl scLaw.nd (pi_range1 rfl D0.T.gRange (pa_cons (pe_op op_mul (pv 2) (pv 3)) pa_nil)) (blkOk_by (N := NL) (sc := defScope sLaw) (by decide +kernel)) (fun _ _ _ _ _ => pg_name (i := 11) scLaw.nd rfl (Or.inl rfl))
      (fun _ _ _ _ _ => pts_one (PW.pt (pw_and (pt_cmpR op_notN (pe_ix ix_tup (pv 6) (pv 11) (fun _ _ => rfl)) pe_non (nomark _)) (pw_and1 (pt_cmpR op_eq (pe_op op_fdiv (pe_ix ix_tup (pv 6) (pv 11) (fun _ _ => rfl)) (pv 3)) (pv 13) (nomark _))))))
      (fun _ _ _ _ _ => pe_op op_mod (pe_ix ix_tup (pv 6) (pv 11) (fun _ _ => rfl)) (pv 3))) pa_nil)), ?_⟩
  intro D σ H dc x n d pr Pl q rd wr mn l s i a c ps hσ h13 h16 h17 h18 L k
  obtain ⟨v0, v7, v8, v9, v10, v11, v12, v13, v14, v15, v16, v17, v18, v19, v20, v21, v22, v23, v24, v25, v26, v27, rfl⟩ := hσ
  obtain rfl : v13 = some (.int a) := Option.some.inj h13
  obtain rfl : v16 = some (.ref rd) := Option.some.inj h16
  obtain rfl : v17 = some (.ref wr) := Option.some.inj h17
  obtain rfl : v18 = some (.ref mn) := Option.some.inj h18
  have hb := L.bd
  have h9 := mul_9 (l := l) (s := s) ⟨hb.1, hb.2.1, hb.2.2.1, hb.2.2.2.1⟩
  refine ⟨_, rfl, _, rfl, _, _, rfl, rfl, .inl ⟨by omega, by omega⟩, l * s, rfl, by omega, by omega, fun D2 hD => ?_⟩
  refine lc_range (lo := 0) (n := (l * s).toNat) (fun j Hc => Same H Hc ∧ Hc D2 = some (.lst (((List.range j).filterMap (theirsF ps s a)).map V.int))) ⟨same_new hD, upd_same⟩ ?_ ?_
  · rintro j Hc hj ⟨Sc, hc⟩
    obtain ⟨po, hpo⟩ : ∃ po, ps[j]? = some po := ⟨_, List.getElem?_eq_getElem (by rw [L.pk.len]; omega)⟩
    have hz : (0 : Int) + (j : Int) = (j : Int) := by omega
    rw [hz]
    have htk : (List.range (j + 1)).filterMap (theirsF ps s a) = (List.range j).filterMap (theirsF ps s a) ++ (theirsF ps s a j).toList := by
      rw [List.range_succ, List.filterMap_append, List.filterMap_cons]
      cases theirsF ps s a j <;> rfl
    have hno : theirsF ps s a j = none → Same H Hc ∧ Hc D2 = some (.lst (((List.range (j + 1)).filterMap (theirsF ps s a)).map V.int)) := fun e => by
      rw [htk, e]
      show _ ∧ Hc D2 = some (HO.lst (((List.range j).filterMap (theirsF ps s a) ++ []).map V.int))
      rw [List.append_nil]
      exact ⟨Sc, hc⟩
    have hat : atI (ps.map ov) (j : Int) = some (ov po) := at_of (j := j) rfl (by rw [List.getElem?_map, hpo] <;> rfl)
    refine ⟨rfl, _, rfl, _, rfl, pr, _, (j : Int), ov po, rfl, rfl, SqT.of (Sc _ _ L.tp), hat, rfl, _, rfl, ?_⟩
    cases po with
    | none =>
      refine iteF (hno ?_)
      unfold theirsF
      rw [hpo]
    | some z =>
      refine iteT ⟨_, rfl, _, rfl, pr, _, (j : Int), .int z, rfl, rfl, SqT.of (Sc _ _ L.tp), hat, _, rfl, _, _, rfl, rfl, ⟨by omega, by omega⟩, _, rfl, rfl, _, rfl, ?_⟩
      by_cases hq : z / s = a
      · rw [decide_eq_true (congrArg V.int hq)]
        have e : theirsF ps s a j = some (z % s) := theirsF_some.mpr ⟨z, hpo, hq, rfl⟩
        refine iteT ⟨_, rfl, _, rfl, pr, _, (j : Int), .int z, rfl, rfl, SqT.of (Sc _ _ L.tp), hat, _, rfl, _, _, rfl, rfl, (by omega), _, hc, small1000 ?_, fun b u hu => ?_, ?_⟩
        · rw [List.length_map]
          have := List.length_filterMap_le (theirsF ps s a) (List.range j)
          rw [List.length_range] at this
          omega
        · rw [upd_ne (ne_of_none hu hD)]
          exact Sc _ _ hu
        · rw [upd_same, htk, e, List.map_append] <;> rfl
      · rw [decide_eq_false (fun q => hq (V.int.inj q))]
        refine iteF (hno ?_)
        unfold theirsF
        rw [hpo]
        exact if_neg hq
  · rintro Hc ⟨Sc, hc⟩
    refine ⟨D2, _, rfl, SqL.of hc, ?_, fun ns p hp hs hpn => ?_⟩
    · have := List.length_filterMap_le (theirsF ps s a) (List.range (l * s).toNat)
      rw [List.length_range] at this
      omega
    · exact k _ p ns _ SL.mk rfl rfl rfl rfl rfl (Sc.trans (same_new hpn)) upd_same hp hs
end
end Clx
/-! ## K28 -/
set_option Elab.async false
set_option linter.all false
set_option maxRecDepth 100000
set_option maxHeartbeats 4000000
set_option pp.maxSteps 1500
set_option pp.deepTerms false
/-! ### the law's lines: compared; joined -/
namespace Clx
open PySem PySem.Spec PyProof.Rows L2
theorem filled_vals {sel : Call → Prop} {idx : Call → Nat} {f : Call → Int} {c : List Call} {n : Nat} {xs : List V} (F : Filled sel idx f c n xs) : ∀ v ∈ xs, v = .non ∨ ∃ z, v = .int z := fun v hv => by
  obtain ⟨k, hk⟩ := List.mem_iff_getElem?.mp hv
  have hkn : k < n := by
    have := (List.getElem?_eq_some_iff.mp hk).1
    rw [F.len] at this
    exact this
  by_cases hex : ∃ e ∈ c, sel e ∧ idx e = k
  · obtain ⟨e, he, hs, hik⟩ := hex
    have h2 := F.yes e he hs
    rw [hik, hk] at h2
    exact .inr ⟨_, Option.some.inj h2⟩
  · have h2 := F.no k hkn fun e he hs hik => hex ⟨e, he, hs, hik⟩
    rw [hk] at h2
    exact .inl (Option.some.inj h2)
section
variable {P : Program} {w : World} {K : PySem.W.Frag} {mg : Str → Option Value} {base : Heap} {f CC CE BS BG Pf : Addr} {cd : Value} {A : Around} {outer : List Env} {s0 : Shared} {H0 : Hp} {E : XK}
theorem law12d (hr : Room 5 (A.deeper (envOfC "law" (defScope sLaw) s0.heap.objs.size f cd))) (D0 : Defs P w K mg base CC CE BS BG Pf) : ∃ t, PS (LX P w K mg base f cd A outer s0 H0 E) (lc12 3) t ∧ ∀ (D : Ends) (σ : L2.St) (H : Hp) (dc x n d pr Pl q rd wr mn th : Addr) (l s i a : Int) (c : List Call) (ps : List (Option Int)) (xs ys : List V) (ms ts : List Int),
    SL dc x pr l s i σ → σ[13]? = some (some (.int a)) → σ[16]? = some (some (.ref rd)) → σ[17]? = some (some (.ref wr)) → σ[18]? = some (some (.ref mn)) → σ[19]? = some (some (.ref th)) → LH CE CC H dc x n d pr Pl q Pf l s i c ps → Link c ps → RdAt H rd s a i c xs → WrAt H wr s a i c ys →
    H mn = some (.lst (ms.map V.int)) → ms.Perm ((List.range (l * s).toNat).filterMap (mineF ps s a)) → ms.Pairwise (· ≤ ·) → H th = some (.lst (ts.map V.int)) → ts.Perm ((List.range (l * s).toNat).filterMap (theirsF ps s a)) → ts.Pairwise (· ≤ ·) →
    (∀ (σ' : L2.St) (H' : Hp), SL dc x pr l s i σ' → σ'[13]? = some (some (.int a)) → σ'[16]? = some (some (.ref rd)) → Same H H' → D.nx σ' H') →
    t D σ H := by
  refine ⟨_, ps_if (PW.pt (pw_or (pt_cmpR (op_neD hr.units) (pe_callB cr_sorted (by rfl) D0.T.gSorted (by decide +kernel) (pa_cons (pe_lc (own := [("_law_slot", 14)]) (g := gName 14) (tt := ttNN) (te := tVar 14) rfl scLaw.nd (pi_tup (pv 16))
          (blkOk_by (N := NL) (sc := defScope sLaw) (by decide +kernel)) (fun _ _ _ _ _ => pg_name (i := 14) scLaw.nd rfl (Or.inl rfl)) (fun _ _ _ _ _ => pts_one (pt_cmpR op_notN (pv 14) pe_non (nomark _))) (fun _ _ _ _ _ => pv 14)) pa_nil)) (pv 18) (nomark _))
      (pw_or (pt_cmpR (op_neD hr.units) (pe_callB cr_sorted (by rfl) D0.T.gSorted (by decide +kernel) (pa_cons (pe_lc (own := [("_law_slot", 14)]) (g := gName 14) (tt := ttNN) (te := tVar 14) rfl scLaw.nd (pi_tup (pv 17))
          (blkOk_by (N := NL) (sc := defScope sLaw) (by decide +kernel)) (fun _ _ _ _ _ => pg_name (i := 14) scLaw.nd rfl (Or.inl rfl)) (fun _ _ _ _ _ => pts_one (pt_cmpR op_notN (pv 14) pe_non (nomark _))) (fun _ _ _ _ _ => pv 14)) pa_nil)) (pv 19) (nomark _))
      (pw_or1 (pt_cmpR op_ne (pe_callB call_len_seq (by rfl) D0.T.gLen PySem.boot_len (pa_cons (pv 16) pa_nil)) (pv 4) (nomark _))))))
    (pss_one (ps_ret pe_bl)) pss_nil, ?_⟩
  intro D σ H dc x n d pr Pl q rd wr mn th l s i a c ps xs ys ms ts hσ h13 h16 h17 h18 h19 L hL hR hW hm1 hm2 hm3 ht1 ht2 ht3 k
  obtain ⟨v0, v7, v8, v9, v10, v11, v12, v13, v14, v15, v16, v17, v18, v19, v20, v21, v22, v23, v24, v25, v26, v27, rfl⟩ := hσ
  obtain rfl : v13 = some (.int a) := Option.some.inj h13
  obtain rfl : v16 = some (.ref rd) := Option.some.inj h16
  obtain rfl : v17 = some (.ref wr) := Option.some.inj h17
  obtain rfl : v18 = some (.ref mn) := Option.some.inj h18
  obtain rfl : v19 = some (.ref th) := Option.some.inj h19
  have hb := L.bd
  have hxl : xs.length = i.toNat := hR.2.len
  have hyl : ys.length = i.toNat := hW.2.len
  refine nonN_lc (K := K) (j := 16) (t := rd) (xs := xs) (by show 14 < 28; decide) rfl (by decide) hR.1 (filled_vals hR.2) (by omega) fun ns p H1 hp hs S1 hp1 => ?_
  have en : ns = ms := sorted_same (filled_nodup hR.2 fun e he e' he' h1 h2 h3 => L.gd.oneEq he he' (dm_inj (h1.trans h2.symm) h3)) mine_nodup (fun v => (filled_mem hR.2 (fun e he _ => by have := L.gd.bd e he; omega) v).trans (mine_mem hL L.pk).symm) hp hm2 hs hm3
  refine ⟨_, rfl, _, _, dp_ints hp1, dp_ints (S1 _ _ hm1), shaped_ints _, shaped_ints _, _, rfl, ?_⟩
  rw [eqv_ints, decide_eq_true en]
  refine iteF ?_
  refine nonN_lc (K := K) (j := 17) (t := wr) (xs := ys) (by show 14 < 28; decide) rfl (by decide) (S1 _ _ hW.1) (filled_vals hW.2) (by omega) fun ns2 p2 H2 hp2 hs2 S2 hp3 => ?_
  have en2 : ns2 = ts := sorted_same (filled_nodup hW.2 fun e he e' he' h1 h2 h3 => L.gd.goalEq he he' (dm_inj (h1.trans h2.symm) h3)) (theirs_nodup L.pk) (fun v => (filled_mem hW.2 (fun e he _ => by have := L.gd.bd e he; omega) v).trans (theirs_mem hL L.pk).symm) hp2 ht2 hs2 ht3
  refine ⟨_, rfl, _, _, dp_ints hp3, dp_ints (S2 _ _ (S1 _ _ ht1)), shaped_ints _, shaped_ints _, _, rfl, ?_⟩
  rw [eqv_ints, decide_eq_true en2]
  refine iteF ⟨_, rfl, rd, xs, rfl, .inr (SqT.of (S2 _ _ (S1 _ _ hR.1))), _, rfl, rfl, _, rfl, ?_⟩
  rw [decide_eq_true (show V.int (xs.length : Int) = V.int i by rw [hxl]; congr 1; omega)]
  exact iteF (k _ H2 SL.mk rfl rfl (S1.trans S2))
end
end Clx
/-! ## K29 -/
set_option Elab.async false
set_option linter.all false
set_option maxRecDepth 100000
set_option maxHeartbeats 4000000
set_option pp.maxSteps 1500
set_option pp.deepTerms false
/-! ### the law's lines: joined; the loop over them -/
namespace Clx
open PySem PySem.Spec PyProof.Rows L2
section
variable {P : Program} {w : World} {K : PySem.W.Frag} {mg : Str → Option Value} {base : Heap} {f CC CE BS BG Pf : Addr} {cd : Value} {A : Around} {outer : List Env} {s0 : Shared} {H0 : Hp} {E : XK}
theorem law12e (hr : Room 5 (A.deeper (envOfC "law" (defScope sLaw) s0.heap.objs.size f cd))) (D0 : Defs P w K mg base CC CE BS BG Pf) : ∃ t, PS (LX P w K mg base f cd A outer s0 H0 E) (lc12 4) t ∧ ∀ (D : Ends) (σ : L2.St) (H : Hp) (dc x n d pr Pl q rd : Addr) (l s i a : Int) (c : List Call) (ps : List (Option Int)) (xs : List V),
    SL dc x pr l s i σ → σ[13]? = some (some (.int a)) → 0 ≤ a → a < l → σ[16]? = some (some (.ref rd)) → LH CE CC H dc x n d pr Pl q Pf l s i c ps → Link c ps → RdAt H rd s a i c xs →
    (∀ (σ' : L2.St) (H' : Hp), SL dc x pr l s i σ' → Same H H' → D.nx σ' H') →
    t D σ H := by
  obtain ⟨fJ, fdJ, mJ, GJ, bJ⟩ := D0.joins
  obtain ⟨fW, fdW, mW, GW, bW⟩ := D0.writes
  have hr2 : Room 2 _ := hr.mono (by decide)
  refine ⟨_, ps_for PassesOwn.never rfl (pi_range1 rfl D0.T.gRange (pa_cons (pv 4) pa_nil)) (pg_name (i := 20) scLaw.nd rfl (Or.inl rfl))
    (pss_cons (ps_set (i := 21) scLaw.nd rfl (Or.inl rfl) (pe_meth (pv 5) D0.T.clE mJ GJ hr2 bJ .nil pass0 (pa_cons (pv 20) pa_nil)))
    (pss_cons (ps_set (i := 22) scLaw.nd rfl (Or.inl rfl) (pe_ifExp (pt_cmpR op_isN (pe_ix ix_tup (pv 16) (pv 20) (fun _ _ => rfl)) pe_non (nomark _)) pe_non (pe_ix ix_tup (pv 6) (pe_op op_add (pe_op op_mul (pv 13) (pv 3)) (pe_ix ix_tup (pv 16) (pv 20) (fun _ _ => rfl))) (fun _ _ => rfl))))
    (pss_cons (ps_if (pt_cmpR op_ne (pe_ix ix_tup (pv 21) (pv 13) (fun _ _ => rfl)) (pe_ifExp (pt_cmpR op_isN (pv 22) pe_non (nomark _)) pe_non (pe_op op_fdiv (pv 22) (pv 3))) (by rfl)) (pss_one (ps_ret pe_bl)) pss_nil)
    (pss_one (ps_if (PW.pt (pw_and (pt_cmpR op_notN (pv 22) pe_non (nomark _)) (pw_and1 (pt_cmpR op_ne (pe_ix ix_tup (pe_meth (pv 5) D0.T.clE mW GW hr2 bW .nil pass0 (pa_cons (pe_op op_fdiv (pv 22) (pv 3)) pa_nil)) (pv 20) (fun _ _ => rfl)) (pe_op op_mod (pv 22) (pv 3)) (nomark _)))))
      (pss_one (ps_ret pe_bl)) pss_nil))))), ?_⟩
  intro D σ H dc x n d pr Pl q rd l s i a c ps xs hσ h13 ha0 ha1 h16 L hL hR k
  obtain ⟨v0, v7, v8, v9, v10, v11, v12, v13, v14, v15, v16, v17, v18, v19, v20, v21, v22, v23, v24, v25, v26, v27, rfl⟩ := hσ
  obtain rfl : v13 = some (.int a) := Option.some.inj h13
  obtain rfl : v16 = some (.ref rd) := Option.some.inj h16
  have hb := L.bd
  have noJ : (xf l s i n).lookup ("joins" : Str) = none := xf_no _ _ _ _ (by decide +kernel)
  have noW : (xf l s i n).lookup ("writes" : Str) = none := xf_no _ _ _ _ (by decide +kernel)
  obtain ⟨⟨dx, hx⟩, _⟩ := id L.ex
  refine ⟨_, rfl, i, rfl, by omega, by omega, ?_⟩
  refine for_range (lo := 0) (n := i.toNat) (fun j σ Hc => (∃ v20 v21 v22, σ = [v0, some (.ref dc), some (.int l), some (.int s), some (.int i), some (.ref x), some (.ref pr), v7, v8, v9, v10, v11, v12, some (.int a), v14, v15, some (.ref rd), v17, v18, v19, v20, v21, v22, v23, v24, v25, v26, v27]) ∧ Same H Hc) ⟨⟨v20, v21, v22, rfl⟩, fun _ _ h => h⟩ ?_ ?_
  · rintro j σ Hc hj ⟨⟨v20, v21, v22, rfl⟩, Sc⟩
    have hz : (0 : Int) + (j : Int) = (j : Int) := by omega
    rw [hz]
    refine ⟨_, rfl, x, dx, _, rfl, Sc _ _ hx, noJ, _, rfl, x, n, d, l, s, i, c, (j : Int), rfl, L.ex.same Sc, L.gd, fun js q H2 FJ S2 _ hq => ?_⟩
    have Sc2 : Same H H2 := Sc.trans S2
    have hrd2 := Sc2 _ _ hR.1
    by_cases hex : ∃ e ∈ c, e.one / s = a ∧ e.mid = (j : Int)
    · obtain ⟨e, he, he1, he2⟩ := hex
      have hbe := L.gd.bd e he
      have hxj : xs[j]? = some (.int (e.one % s)) := by
        have h := hR.2.yes e he he1
        rw [show e.mid.toNat = j by omega] at h
        exact h
      have hpe := ((hL e.one e.goal).mp ⟨e, he, rfl, rfl⟩).2
      have hlin : a * s + e.one % s = e.one := by rw [← he1]; exact dm _ _
      have hja : js[a.toNat]? = some (.int (e.goal / s)) := by
        have h := FJ.yes e he he2
        rw [show (e.one / s).toNat = a.toNat by rw [he1]] at h
        exact h
      refine ⟨_, rfl, _, rfl, rd, xs, (j : Int), .int (e.one % s), rfl, rfl, SqT.of hrd2, at_of (j := j) rfl hxj, rfl, _, rfl, ?_⟩
      refine iteF ⟨_, rfl, _, rfl, _, rfl, _, _, rfl, rfl, .inl ⟨by omega, by omega⟩, _, rfl, _, rfl, rd, xs, (j : Int), .int (e.one % s), rfl, rfl, SqT.of hrd2, at_of (j := j) rfl hxj, _, _, rfl, rfl, ?_⟩
      refine ⟨pr, _, a * s + e.one % s, .int e.goal, rfl, rfl, SqT.of (Sc2 _ _ L.tp), at_of (j := e.one.toNat) (by omega) (by rw [List.getElem?_map, hpe] <;> rfl), ?_⟩
      refine ⟨_, rfl, _, rfl, q, js, a, .int (e.goal / s), rfl, rfl, SqT.of hq, at_of (j := a.toNat) (by omega) hja, _, rfl, rfl, _, rfl, ?_⟩
      refine iteF ⟨_, rfl, _, rfl, _, _, rfl, rfl, ⟨by omega, by omega⟩, rfl, _, rfl, ?_⟩
      rw [decide_eq_true (by rfl)]
      refine iteF ⟨_, rfl, rfl, _, rfl, ?_⟩
      refine ⟨_, rfl, x, dx, _, rfl, Sc2 _ _ hx, noW, _, rfl, _, rfl, _, _, rfl, rfl, ⟨by omega, by omega⟩, x, n, d, l, s, i, c, e.goal / s, rfl, L.ex.same Sc2, L.gd, fun ws p3 H3 FW S3 _ hp3 => ?_⟩
      have hwj : ws[j]? = some (.int (e.goal % s)) := by
        have h := FW.yes e he rfl
        rw [show e.mid.toNat = j by omega] at h
        exact h
      refine ⟨_, rfl, p3, ws, (j : Int), .int (e.goal % s), rfl, rfl, SqT.of hp3, at_of (j := j) rfl hwj, _, rfl, _, rfl, _, _, rfl, rfl, (by omega), rfl, _, rfl, ?_⟩
      rw [decide_eq_true (by rfl)]
      exact iteF ⟨⟨_, _, _, rfl⟩, Sc2.trans S3⟩
    · have hxj : xs[j]? = some .non := hR.2.no j hj fun e he h1 h2 => hex ⟨e, he, h1, by have := (L.gd.bd e he).2.2.2.2.1; omega⟩
      have hja : js[a.toNat]? = some .non := FJ.no a.toNat (by omega) fun e he h1 h2 => hex ⟨e, he, by
        have := div_lt (L.gd.bd e he).1 (L.gd.bd e he).2.1 ⟨hb.1, hb.2.1⟩
        omega, h1⟩
      refine ⟨_, rfl, _, rfl, rd, xs, (j : Int), .non, rfl, rfl, SqT.of hrd2, at_of (j := j) rfl hxj, rfl, _, rfl, ?_⟩
      refine iteT ?_
      refine ⟨_, rfl, _, rfl, q, js, a, .non, rfl, rfl, SqT.of hq, at_of (j := a.toNat) (by omega) hja, _, rfl, rfl, _, rfl, ?_⟩
      refine iteT ⟨rfl, _, rfl, ?_⟩
      rw [decide_eq_true (by rfl)]
      refine iteF ⟨_, rfl, rfl, _, rfl, ?_⟩
      exact iteF (iteF ⟨⟨_, _, _, rfl⟩, Sc2⟩)
  · rintro σ Hc ⟨⟨v20, v21, v22, rfl⟩, Sc⟩
    exact k _ Hc SL.mk Sc
end
end Clx
/-! ## K30 -/
set_option Elab.async false
set_option linter.all false
set_option maxRecDepth 100000
set_option maxHeartbeats 4000000
set_option pp.maxSteps 1500
set_option pp.deepTerms false
/-! ### the loop over the lines; spot; the wait -/
namespace Clx
open PySem PySem.Spec PyProof.Rows L2
section
variable {P : Program} {w : World} {K : PySem.W.Frag} {mg : Str → Option Value} {base : Heap} {f CC CE BS BG Pf : Addr} {cd : Value} {A : Around} {outer : List Env} {s0 : Shared} {H0 : Hp} {E : XK}
theorem law12 (hr : Room 5 (A.deeper (envOfC "law" (defScope sLaw) s0.heap.objs.size f cd))) (D0 : Defs P w K mg base CC CE BS BG Pf) : ∃ t, PS (LX P w K mg base f cd A outer s0 H0 E) (lb 12) t ∧ ∀ (D : Ends) (σ : L2.St) (H : Hp) (dc x n d pr Pl q : Addr) (l s i : Int) (c : List Call) (ps : List (Option Int)),
    SL dc x pr l s i σ → LH CE CC H dc x n d pr Pl q Pf l s i c ps → Link c ps →
    (∀ (σ' : L2.St) (H' : Hp), SL dc x pr l s i σ' → LH CE CC H' dc x n d pr Pl q Pf l s i c ps → D.nx σ' H') →
    t D σ H := by
  obtain ⟨t0, p0, r0⟩ := law12a (E := E) (outer := outer) (H0 := H0) hr D0
  obtain ⟨t1, p1, r1⟩ := law12b (E := E) (outer := outer) (H0 := H0) hr D0
  obtain ⟨t2, p2, r2⟩ := law12c (E := E) (outer := outer) (H0 := H0) hr D0
  obtain ⟨t3, p3, r3⟩ := law12d (E := E) (outer := outer) (H0 := H0) hr D0
  obtain ⟨t4, p4, r4⟩ := law12e (E := E) (outer := outer) (H0 := H0) hr D0
  refine ⟨_, ps_for PassesOwn.never rfl (pi_range1 rfl D0.T.gRange (pa_cons (pv 2) pa_nil)) (pg_name (i := 13) scLaw.nd rfl (Or.inr rfl))
    (pss_cons p0 (pss_cons p1 (pss_cons p2 (pss_cons p3 (pss_one p4))))), ?_⟩
  intro D σ H dc x n d pr Pl q l s i c ps hσ L hL k
  obtain ⟨v0, v7, v8, v9, v10, v11, v12, v13, v14, v15, v16, v17, v18, v19, v20, v21, v22, v23, v24, v25, v26, v27, rfl⟩ := hσ
  have hb := L.bd
  refine ⟨_, rfl, l, rfl, by omega, by omega, ?_⟩
  refine for_range (lo := 0) (n := l.toNat) (fun j σ Hc => SL dc x pr l s i σ ∧ LH CE CC Hc dc x n d pr Pl q Pf l s i c ps) ⟨SL.mk, L⟩ ?_ ?_
  · rintro j σ Hc hj ⟨hσ, Lc⟩
    have hz : (0 : Int) + (j : Int) = (j : Int) := by omega
    rw [hz]
    obtain ⟨v0, v7, v8, v9, v10, v11, v12, v13, v14, v15, v16, v17, v18, v19, v20, v21, v22, v23, v24, v25, v26, v27, rfl⟩ := hσ
    refine r0 _ _ _ dc x n d pr Pl q l s i (j : Int) c ps SL.mk rfl Lc fun σ1 rd wr xs ys H1 h1 a1 b1 c1 L1 R1 W1 => ?_
    refine r1 _ _ _ dc x n d pr Pl q rd wr l s i (j : Int) c ps h1 a1 b1 c1 L1 fun σ2 mn ms H2 h2 a2 b2 c2 d2 S2 m1 m2 m3 => ?_
    have L2' := L1.same S2
    refine r2 _ _ _ dc x n d pr Pl q rd wr mn l s i (j : Int) c ps h2 a2 b2 c2 d2 L2' fun σ3 th ts H3 h3 a3 b3 c3 d3 e3 S3 t1 t2 t3 => ?_
    have L3 := L2'.same S3
    have S23 := S2.trans S3
    refine r3 _ _ _ dc x n d pr Pl q rd wr mn th l s i (j : Int) c ps xs ys ms ts h3 a3 b3 c3 d3 e3 L3 hL ⟨S23 _ _ R1.1, R1.2⟩ ⟨S23 _ _ W1.1, W1.2⟩ (S3 _ _ m1) m2 m3 t1 t2 t3 fun σ4 H4 h4 a4 b4 S4 => ?_
    refine r4 _ _ _ dc x n d pr Pl q rd l s i (j : Int) c ps xs h4 a4 (by omega) (by omega) b4 (L3.same S4) hL ⟨S4 _ _ (S23 _ _ R1.1), R1.2⟩ fun σ5 H5 h5 S5 => ?_
    exact ⟨h5, (L3.same S4).same S5⟩
  · rintro σ Hc ⟨hσ, Lc⟩
    exact k σ Hc hσ Lc
/-- row 13: the last place -/
theorem law13 (hr : Room 5 (A.deeper (envOfC "law" (defScope sLaw) s0.heap.objs.size f cd))) (D0 : Defs P w K mg base CC CE BS BG Pf) : ∃ t, PS (LX P w K mg base f cd A outer s0 H0 E) (lb 13) t ∧ ∀ (D : Ends) (σ : L2.St) (H : Hp) (dc x n d pr Pl q : Addr) (l s i : Int) (c : List Call) (ps : List (Option Int)),
    SL dc x pr l s i σ → LH CE CC H dc x n d pr Pl q Pf l s i c ps → (∀ (σ' : L2.St), SL dc x pr l s i σ' → D.nx σ' H) → t D σ H := by
  obtain ⟨fS, fdS, mS, GS, bS⟩ := D0.spot
  have hr1 : Room 1 _ := hr.mono (by decide)
  refine ⟨_, ps_if (pt_cmpR op_ne (pe_meth (pv 5) D0.T.clE mS GS hr1 bS .nil passL (pa_cons (pe_op op_sub (pv 2) pe_int) (pa_cons (pe_op op_sub (pv 3) pe_int) pa_nil))) (pe_op op_sub (pe_op op_mul (pv 2) (pv 3)) pe_int) (nomark _))
    (pss_one (ps_ret pe_bl)) pss_nil, ?_⟩
  intro D σ H dc x n d pr Pl q l s i c ps hσ L k
  obtain ⟨v0, v7, v8, v9, v10, v11, v12, v13, v14, v15, v16, v17, v18, v19, v20, v21, v22, v23, v24, v25, v26, v27, rfl⟩ := hσ
  have hb := L.bd
  have noS : (xf l s i n).lookup ("spot" : Str) = none := xf_no _ _ _ _ (by decide +kernel)
  obtain ⟨⟨dx, hx⟩, _⟩ := id L.ex
  refine ⟨_, rfl, x, dx, _, rfl, hx, noS, _, rfl, _, _, rfl, rfl, _, rfl, _, _, rfl, rfl, x, n, d, l, s, i, c, l - 1, s - 1, rfl, L.ex, .inl ⟨⟨by omega, by omega⟩, ⟨by omega, by omega⟩, ?_⟩⟩
  refine ⟨_, rfl, _, rfl, _, _, rfl, rfl, .inl ⟨by omega, by omega⟩, _, _, rfl, rfl, rfl, _, rfl, ?_⟩
  have e : (l - 1) * s + (s - 1) = l * s - 1 := by rw [Int.sub_mul]; omega
  rw [decide_eq_true (show V.int ((l - 1) * s + (s - 1)) = V.int (l * s - 1) by rw [e])]
  exact iteF (k _ SL.mk)
/-- row 16: three drawn places -/
theorem law16 (hr : Room 5 (A.deeper (envOfC "law" (defScope sLaw) s0.heap.objs.size f cd))) (D0 : Defs P w K mg base CC CE BS BG Pf) : ∃ t, PS (LX P w K mg base f cd A outer s0 H0 E) (lb 16) t ∧ ∀ (D : Ends) (σ : L2.St) (H : Hp) (dc x pr : Addr) (l s i : Int),
    SL dc x pr l s i σ → DiceAt H dc →
    (∀ (σ' : L2.St) (a b c : Int) (H' : Hp), SL dc x pr l s i σ' → σ'[23]? = some (some (.int a)) → σ'[24]? = some (some (.int b)) → σ'[25]? = some (some (.int c)) → (0 ≤ a ∧ a < 4) → (0 ≤ b ∧ b < 4) → (0 ≤ c ∧ c < 4) → DiceAt H' dc → SameBut dc H H' → D.nx σ' H') →
    t D σ H := by
  obtain ⟨fR, fdR, gR, kR, GR, bR⟩ := D0.roll
  have hr1 : Room 1 _ := hr.mono (by decide)
  refine ⟨_, ps_asg (pe_tup (pa_cons (pe_call GR hr1 rfl gR kR bR .nil pass0 (pa_cons (pv 1) (pa_cons pe_int pa_nil))) (pa_cons (pe_call GR hr1 rfl gR kR bR .nil pass0 (pa_cons (pv 1) (pa_cons pe_int pa_nil))) (pa_cons (pe_call GR hr1 rfl gR kR bR .nil pass0 (pa_cons (pv 1) (pa_cons pe_int pa_nil))) pa_nil))))
    (pg_tup rfl (pgs_cons (pg_name (i := 23) scLaw.nd rfl (Or.inr rfl)) (pgs_cons (pg_name (i := 24) scLaw.nd rfl (Or.inr rfl)) (pgs_cons (pg_name (i := 25) scLaw.nd rfl (Or.inr rfl)) pgs_nil)))), ?_⟩
  intro D σ H dc x pr l s i hσ hd k
  obtain ⟨v0, v7, v8, v9, v10, v11, v12, v13, v14, v15, v16, v17, v18, v19, v20, v21, v22, v23, v24, v25, v26, v27, rfl⟩ := hσ
  refine ⟨_, rfl, dc, 4, rfl, hd, by omega, by omega, fun a H1 ha0 ha1 hd1 e1 => ?_⟩
  refine ⟨_, rfl, dc, 4, rfl, hd1, by omega, by omega, fun b H2 hb0 hb1 hd2 e2 => ?_⟩
  refine ⟨_, rfl, dc, 4, rfl, hd2, by omega, by omega, fun c H3 hc0 hc1 hd3 e3 => ?_⟩
  refine ⟨(by show 3 ≤ sizeLine; decide), fun p hp => ?_⟩
  refine ⟨p, _, rfl, SqT.of upd_same, rfl, _, _, rfl, _, _, rfl, _, _, rfl, rfl, ?_⟩
  exact k _ a b c _ SL.mk rfl rfl rfl ⟨ha0, ha1⟩ ⟨hb0, hb1⟩ ⟨hc0, hc1⟩ (hd3.keep (same_new hp _)) ((((but_of e1).trans (but_of e2)).trans (but_of e3)).same (same_new hp))
end
end Clx
/-! ## K31 -/
set_option Elab.async false
set_option linter.all false
set_option maxRecDepth 100000
set_option maxHeartbeats 4000000
set_option pp.maxSteps 1500
set_option pp.deepTerms false
/-! ### the wait, counted -/
namespace Clx
open PySem PySem.Spec PyProof.Rows L2
def stepF (a b : Int) (k : Nat) : Option Int := if (a + (k : Int)) % 4 = b then some (k : Int) else none
theorem step_first {a b : Int} (ha : 0 ≤ a ∧ a < 4) (hb : 0 ≤ b ∧ b < 4) : ((List.range 8).filterMap (stepF a b))[0]? = some ((b - a) % 4) := by
  have h1 : a = 0 ∨ a = 1 ∨ a = 2 ∨ a = 3 := by omega
  have h2 : b = 0 ∨ b = 1 ∨ b = 2 ∨ b = 3 := by omega
  rcases h1 with rfl | rfl | rfl | rfl <;> rcases h2 with rfl | rfl | rfl | rfl <;> decide +kernel
abbrev ttStep (i j : Nat) : TT := tTest (tOp rEq (tOp (rI (fun _ j => 0 < j) fun i j => .int (i % j)) (tOp (rI0 fun i j => .int (i + j)) (tVar i) (tVar 26)) (tC (.int 4))) (tVar j))
abbrev tStep (K : PySem.W.Frag) (i j : Nat) : TE := tOp (rIxL K) (tLc (iRng1 (tCons (tC (.int 8)) tNil)) (gName 26) (ttStep i j) (tVar 26) [26]) (tC (.int 0))
theorem step_lc {K : PySem.W.Frag} {σ : L2.St} {H : Hp} {Q : VK} {i j : Nat} {a b : Int} (hl : 26 < σ.length) (hi : σ[i]? = some (some (.int a))) (hj : σ[j]? = some (some (.int b))) (hin : i ≠ 26) (hjn : j ≠ 26) (ha : 0 ≤ a ∧ a < 4) (hb : 0 ≤ b ∧ b < 4)
    (k : ∀ H', Same H H' → Q (.int ((b - a) % 4)) H') : tStep K i j σ H Q := by
  refine ⟨8, rfl, by omega, by omega, fun D hD => ?_⟩
  have hw : wipe σ [26] = σ.set 26 none := rfl
  refine lc_range (lo := 0) (n := (8 : Int).toNat) (fun m Hc => Same H Hc ∧ Hc D = some (.lst (((List.range m).filterMap (stepF a b)).map V.int))) ⟨same_new hD, upd_same⟩ ?_ ?_
  · rintro m Hc hm ⟨Sc, hc⟩
    have hm8 : m < 8 := hm
    have hz : (0 : Int) + (m : Int) = (m : Int) := by omega
    rw [hz]
    have htk : (List.range (m + 1)).filterMap (stepF a b) = (List.range m).filterMap (stepF a b) ++ (stepF a b m).toList := by
      rw [List.range_succ, List.filterMap_append, List.filterMap_cons]
      cases stepF a b m <;> rfl
    have hg : ((wipe σ [26]).set 26 (some (.int (m : Int))))[26]? = some (some (.int (m : Int))) := by
      rw [hw, List.getElem?_set_self (by rw [List.length_set]; exact hl)]
    have hi2 : ((wipe σ [26]).set 26 (some (.int (m : Int))))[i]? = some (some (.int a)) := by
      rw [hw, List.getElem?_set_ne hin.symm, List.getElem?_set_ne hin.symm]
      exact hi
    have hj2 : ((wipe σ [26]).set 26 (some (.int (m : Int))))[j]? = some (some (.int b)) := by
      rw [hw, List.getElem?_set_ne hjn.symm, List.getElem?_set_ne hjn.symm]
      exact hj
    refine ⟨?_, _, hi2, _, hg, _, _, rfl, rfl, _, _, rfl, rfl, (by show (0 : Int) < 4; decide), _, hj2, rfl, _, rfl, ?_⟩
    · show ((wipe σ [26]).set 26 _).set 26 none = σ.set 26 none
      rw [hw, List.set_set, List.set_set]
    · by_cases hq : (a + (m : Int)) % 4 = b
      · rw [decide_eq_true (congrArg V.int hq)]
        have e : stepF a b m = some (m : Int) := if_pos hq
        refine iteT ⟨_, hg, _, hc, small1000 ?_, fun b u hu => ?_, ?_⟩
        · rw [List.length_map]
          have := List.length_filterMap_le (stepF a b) (List.range m)
          rw [List.length_range] at this
          omega
        · rw [upd_ne (ne_of_none hu hD)]
          exact Sc _ _ hu
        · rw [upd_same, htk, e, List.map_append] <;> rfl
      · rw [decide_eq_false (fun z => hq (V.int.inj z))]
        have e : stepF a b m = none := if_neg hq
        refine iteF ⟨Sc, ?_⟩
        rw [htk, e, hc]
        show _ = some (HO.lst (((List.range m).filterMap (stepF a b) ++ []).map V.int))
        rw [List.append_nil]
  · rintro Hc ⟨Sc, hc⟩
    have e := step_first ha hb
    exact ⟨D, _, 0, .int ((b - a) % 4), rfl, rfl, SqL.of hc, at_of (j := 0) rfl (by rw [List.getElem?_map, show (8 : Int).toNat = 8 from rfl, e] <;> rfl), k Hc Sc⟩
section
variable {P : Program} {w : World} {K : PySem.W.Frag} {mg : Str → Option Value} {base : Heap} {f CC CE BS BG Pf : Addr} {cd : Value} {A : Around} {outer : List Env} {s0 : Shared} {H0 : Hp} {E : XK}
theorem law17 (hr : Room 5 (A.deeper (envOfC "law" (defScope sLaw) s0.heap.objs.size f cd))) (D0 : Defs P w K mg base CC CE BS BG Pf) : ∃ t, PS (LX P w K mg base f cd A outer s0 H0 E) (lb 17) t ∧ ∀ (D : Ends) (σ : L2.St) (H : Hp) (dc x pr : Addr) (l s i a b c : Int),
    SL dc x pr l s i σ → σ[23]? = some (some (.int a)) → σ[24]? = some (some (.int b)) → σ[25]? = some (some (.int c)) → (0 ≤ a ∧ a < 4) → (0 ≤ b ∧ b < 4) →
    (∀ (σ' : L2.St) (H' : Hp), SL dc x pr l s i σ' → σ'[23]? = some (some (.int a)) → σ'[24]? = some (some (.int b)) → σ'[25]? = some (some (.int c)) → σ'[27]? = some (some (.int ((b - a) % 4))) → Same H H' → D.nx σ' H') →
    t D σ H := by
  refine ⟨_, ps_set (i := 27) scLaw.nd rfl (Or.inl rfl) (pe_ix ix_list (pe_lc (own := [("_law_k", 26)]) (g := gName 26) (tt := ttStep 23 24) (te := tVar 26) rfl scLaw.nd (pi_range1 rfl D0.T.gRange (pa_cons pe_int pa_nil)) (blkOk_by (N := NL) (sc := defScope sLaw) (by decide +kernel)) (fun _ _ _ _ _ => pg_name (i := 26) scLaw.nd rfl (Or.inl rfl))
      (fun _ _ _ _ _ => pts_one (pt_cmpR op_eq (pe_op op_mod (pe_op op_add (pv 23) (pv 26)) pe_int) (pv 24) (nomark _))) (fun _ _ _ _ _ => pv 26)) pe_int (fun _ _ => rfl)), ?_⟩
  intro D σ H dc x pr l s i a b c hσ h23 h24 h25 ha hb k
  obtain ⟨v0, v7, v8, v9, v10, v11, v12, v13, v14, v15, v16, v17, v18, v19, v20, v21, v22, v23, v24, v25, v26, v27, rfl⟩ := hσ
  obtain rfl : v23 = some (.int a) := Option.some.inj h23
  obtain rfl : v24 = some (.int b) := Option.some.inj h24
  obtain rfl : v25 = some (.int c) := Option.some.inj h25
  refine step_lc (K := K) (i := 23) (j := 24) (by show 26 < 28; decide) rfl rfl (by decide) (by decide) ha hb fun H1 S1 => ?_
  exact k _ H1 SL.mk rfl rfl rfl rfl S1
theorem law18 (hr : Room 5 (A.deeper (envOfC "law" (defScope sLaw) s0.heap.objs.size f cd))) (D0 : Defs P w K mg base CC CE BS BG Pf) : ∃ t, PS (LX P w K mg base f cd A outer s0 H0 E) (lb 18) t ∧ ∀ (D : Ends) (σ : L2.St) (H : Hp) (dc x pr : Addr) (l s i a b c : Int),
    SL dc x pr l s i σ → σ[23]? = some (some (.int a)) → σ[24]? = some (some (.int b)) → σ[25]? = some (some (.int c)) → (0 ≤ a ∧ a < 4) → (0 ≤ b ∧ b < 4) → (0 ≤ c ∧ c < 4) → σ[27]? = some (some (.int ((b - a) % 4))) →
    (∀ (σ' : L2.St) (H' : Hp), SL dc x pr l s i σ' → Same H H' → D.nx σ' H') →
    t D σ H := by
  obtain ⟨fW, fdW, gW, kW, GW, bW⟩ := D0.wait
  have hr1 : Room 1 _ := hr.mono (by decide)
  refine ⟨_, ps_if (pt_cmpR op_ne (pe_call GW hr1 rfl gW kW bW .nil pass0 (pa_cons (pv 23) (pa_cons (pv 24) (pa_cons (pv 25) (pa_cons pe_int pa_nil)))))
      (pe_op op_add (pv 27) (pe_ix ix_list (pe_lc (own := [("_law_k", 26)]) (g := gName 26) (tt := ttStep 24 25) (te := tVar 26) rfl scLaw.nd (pi_range1 rfl D0.T.gRange (pa_cons pe_int pa_nil)) (blkOk_by (N := NL) (sc := defScope sLaw) (by decide +kernel)) (fun _ _ _ _ _ => pg_name (i := 26) scLaw.nd rfl (Or.inl rfl))
      (fun _ _ _ _ _ => pts_one (pt_cmpR op_eq (pe_op op_mod (pe_op op_add (pv 24) (pv 26)) pe_int) (pv 25) (nomark _))) (fun _ _ _ _ _ => pv 26)) pe_int (fun _ _ => rfl))) (nomark _)) (pss_one (ps_ret pe_bl)) pss_nil, ?_⟩
  intro D σ H dc x pr l s i a b c hσ h23 h24 h25 ha hb hc h27 k
  obtain ⟨v0, v7, v8, v9, v10, v11, v12, v13, v14, v15, v16, v17, v18, v19, v20, v21, v22, v23, v24, v25, v26, v27, rfl⟩ := hσ
  obtain rfl : v23 = some (.int a) := Option.some.inj h23
  obtain rfl : v24 = some (.int b) := Option.some.inj h24
  obtain rfl : v25 = some (.int c) := Option.some.inj h25
  obtain rfl : v27 = some (.int ((b - a) % 4)) := Option.some.inj h27
  refine ⟨_, rfl, _, rfl, _, rfl, a, b, c, 4, rfl, by omega, _, rfl, ?_⟩
  refine step_lc (K := K) (i := 24) (j := 25) (by show 26 < 28; decide) rfl rfl (by decide) (by decide) hb hc fun H1 S1 => ?_
  refine ⟨_, _, rfl, rfl, rfl, _, rfl, ?_⟩
  rw [decide_eq_true (by rfl)]
  exact iteF (k _ H1 SL.mk S1)
end
end Clx
/-! ## K32 -/
set_option Elab.async false
set_option linter.all false
set_option maxRecDepth 100000
set_option maxHeartbeats 4000000
set_option pp.maxSteps 1500
set_option pp.deepTerms false
/-! ### what is told -/
namespace Clx
open PySem PySem.Spec PyProof.Rows L2
abbrev lamQ : Str := ("law" ++ ".<locals>.") ++ "<lambda>"
abbrev nine (BG BN BR BS BK BP BT BO NS : Addr) : List (Addr × Str) := [(BG, "gate"), (BN, "net"), (BR, "rate"), (BS, "size"), (BK, "blocked"), (BP, "paper"), (BT, "text"), (BO, "store"), (NS, "no such")]
/-- the clauses that an own error meets -/
structure Exms (K : PySem.W.Frag) (BG BN BR BS : Addr) : Prop where
  gg : PySem.W.exmOne K (.ref BG) (.ref BG) = some true
  sg : PySem.W.exmOne K (.ref BS) (.ref BG) = some false
  sn : PySem.W.exmOne K (.ref BS) (.ref BN) = some false
  sr : PySem.W.exmOne K (.ref BS) (.ref BR) = some false
  ss : PySem.W.exmOne K (.ref BS) (.ref BS) = some true
theorem wq_gate {K : PySem.W.Frag} {Q : VK} {H : Hp} {BG BN BR BS BK BP BT BO NS : Addr} (X : Exms K BG BN BR BS) (h : Q (.str "gate") H) : wq K Q H (.ref BG) (nine BG BN BR BS BK BP BT BO NS) := ⟨true, X.gg, fun _ => h, fun z => (by cases z)⟩
theorem wq_size {K : PySem.W.Frag} {Q : VK} {H : Hp} {BG BN BR BS BK BP BT BO NS : Addr} (X : Exms K BG BN BR BS) (h : Q (.str "size") H) : wq K Q H (.ref BS) (nine BG BN BR BS BK BP BT BO NS) :=
  ⟨false, X.sg, fun z => (by cases z), fun _ => ⟨false, X.sn, fun z => (by cases z), fun _ => ⟨false, X.sr, fun z => (by cases z), fun _ => ⟨true, X.ss, fun _ => h, fun z => (by cases z)⟩⟩⟩⟩
/-- what the law knows of the heap once a lambda was made -/
structure LP (CE CC : Addr) (H : Hp) (dc x n d q Pl : Addr) (l s i : Int) (c : List Call) : Prop where
  dice : DiceAt H dc
  ex : ExAt CE CC H x n d l s i c
  tabs : LamX.Tabs [(Pl, lamQ)] H
  lq : H q = some (.lst [.ref dc])
theorem LP.same {CE CC : Addr} {H H' : Hp} {dc x n d q Pl : Addr} {l s i : Int} {c : List Call} (L : LP CE CC H dc x n d q Pl l s i c) (e : Same H H') : LP CE CC H' dc x n d q Pl l s i c := ⟨L.dice.keep (e _), L.ex.same e, L.tabs.ext e, e _ _ L.lq⟩
theorem LP.ext {CE CC : Addr} {H H' : Hp} {dc x n d q Pl : Addr} {l s i : Int} {c : List Call} (L : LP CE CC H dc x n d q Pl l s i c) (e : ExtN H H') (t : LamX.Tabs [(Pl, lamQ)] H') : LP CE CC H' dc x n d q Pl l s i c := by
  obtain ⟨a, b, z, h⟩ := L.dice
  exact ⟨⟨a, b, z, e _ _ h (fun _ z => by cases z)⟩, L.ex.ext e, t, e _ _ L.lq (fun _ z => by cases z)⟩
theorem LH.lp {CE CC : Addr} {H : Hp} {dc x n d pr Pl q Pf : Addr} {l s i : Int} {c : List Call} {ps : List (Option Int)} (L : LH CE CC H dc x n d pr Pl q Pf l s i c ps) : LP CE CC H dc x n d q Pl l s i c :=
  ⟨L.dice, L.ex, fun p hp => by rw [List.mem_singleton.mp hp]; exact LamX.TabS.nil L.tl, L.lq⟩
theorem LP.but {CE CC : Addr} {H H' : Hp} {dc x n d q Pl : Addr} {l s i : Int} {c : List Call} (L : LP CE CC H dc x n d q Pl l s i c) (e : SameBut dc H H') (hd : DiceAt H' dc) : LP CE CC H' dc x n d q Pl l s i c := by
  obtain ⟨a, b, z, h⟩ := L.dice
  refine ⟨hd, L.ex.extL (e.extL h), fun p hp => ?_, e _ _ (ne_of L.lq h (by intro z; cases z)) L.lq⟩
  obtain ⟨ps, h1, h2, h3⟩ := L.tabs p hp
  refine ⟨ps, e _ _ (ne_of h1 h (by intro z; cases z)) h1, h2, fun pos cv hc => ?_⟩
  obtain ⟨c', e1, e2⟩ := h3 pos cv hc
  exact ⟨c', e1, e _ _ (ne_of e2 h (by intro z; cases z)) e2⟩
/-- told, as the top has left it -/
structure ToldT (K : PySem.W.Frag) (mg : Str → Option Value) (BG BN BR BS BK BP BT BO NS : Addr) : Prop where
  d : ∃ (f : Addr) (fd : FuncData), FnS K "_law_told" "_law_told" sTold f fd ∧ mg "_law_told" = some (.ref f)
  n9 : Nine mg BG BN BR BS BK BP BT BO NS
  ex : Exms K BG BN BR BS
theorem scTold : FnScope ["_law_what"] ["_law_what"] (defScope sTold) := ⟨rfl, rfl, rfl, by decide +kernel, rfl, by decide +kernel, by decide +kernel⟩
section
variable {P : Program} {w : World} {K : PySem.W.Frag} {mg : Str → Option Value} {base : Heap} {f CC CE BS BG BN BR BK BP BT BO NS Pf Pl cc : Addr} {A : Around} {outer : List Env} {s0 : Shared} {H0 : Hp} {E : XK}
theorem law14 (hr : Room 6 (A.deeper (envOfC "law" (defScope sLaw) s0.heap.objs.size f (.ref cc)))) (D0 : Defs P w K mg base CC CE BS BG Pf) (TT : ToldT K mg BG BN BR BS BK BP BT BO NS) (TB : LamX.TabB base mg cc Pl) : ∃ t, PS (LX P w K mg base f (.ref cc) A outer s0 H0 E) (lb 14) t ∧ ∀ (D : Ends) (σ : L2.St) (H : Hp) (dc x n d pr q : Addr) (l s i : Int) (c : List Call),
    SL dc x pr l s i σ → LP CE CC H dc x n d q Pl l s i c → (∀ (σ' : L2.St) (H' : Hp), SL dc x pr l s i σ' → LP CE CC H' dc x n d q Pl l s i c → D.nx σ' H') → t D σ H := by
  obtain ⟨fT, fdT, FT, gT⟩ := TT.d
  have kT := FT.kp
  have bT : Binds K fdT ["_law_what"] [] := FT.bindsN fun _ _ _ _ _ _ us hl => match us, hl with | [_], _ => rfl
  obtain ⟨oc, od, dV, kV, doc, pm, an, cdv, ct, osl, rfl, lk, hcd, _, _⟩ := FT.ex
  obtain ⟨fS, fdS, mS, GS, bS⟩ := D0.spot
  have hr3 : Room 3 _ := hr.mono (by decide)
  refine ⟨_, ps_if (pt_cmpR op_ne (LamX.pe_lamcall (T := [(Pl, lamQ)]) (Ng := ["_law_what"]) (k := 1) (t := fun E => tMeth CE "spot" (spSpot CE CC BG) [] E (tVar 5) (tCons (tVar 2) (tCons (tC (.int 0)) tNil)))
      rfl gT kT lk hcd bT scTold rfl (Or.inl rfl) (told9 TT.n9) TB rfl (List.mem_singleton.mpr rfl) (fun p hp _ => by rw [List.mem_singleton.mp hp]; rfl) hr3 (LamX.lamS_by (sc := defScope sLaw) (by decide +kernel)) rfl (fun _ _ _ _ _ => rfl)
      (fun A' outer' s' H' E' f' c' hr' => pe_meth (pv 5) D0.T.clE mS GS hr' bS .nil (passes_call (takes_of rfl rfl rfl rfl) fun _ _ _ _ h => h) (pa_cons (pv 2) (pa_cons pe_int pa_nil)))) pe_str (nomark _)) (pss_one (ps_ret pe_bl)) pss_nil, ?_⟩
  intro D σ H dc x n d pr q l s i c hσ L k
  obtain ⟨v0, v7, v8, v9, v10, v11, v12, v13, v14, v15, v16, v17, v18, v19, v20, v21, v22, v23, v24, v25, v26, v27, rfl⟩ := hσ
  refine ⟨L.tabs, fun H1 e1 t1 => ?_⟩
  have L1 := L.ext e1 t1
  have hb := L1.ex.net.bd
  have noS : (xf l s i n).lookup ("spot" : Str) = none := xf_no _ _ _ _ (by decide +kernel)
  obtain ⟨⟨dx, hx⟩, _⟩ := id L1.ex
  refine ⟨_, rfl, x, dx, _, rfl, hx, noS, _, rfl, x, n, d, l, s, i, c, l, 0, rfl, L1.ex, .inr ⟨⟨by omega, by omega⟩, wq_gate TT.ex ?_⟩⟩
  refine ⟨rfl, _, rfl, ?_⟩
  rw [decide_eq_true (by rfl)]
  exact iteF (k _ H1 SL.mk L1)
theorem law15 (hr : Room 6 (A.deeper (envOfC "law" (defScope sLaw) s0.heap.objs.size f (.ref cc)))) (D0 : Defs P w K mg base CC CE BS BG Pf) (TT : ToldT K mg BG BN BR BS BK BP BT BO NS) (TB : LamX.TabB base mg cc Pl) : ∃ t, PS (LX P w K mg base f (.ref cc) A outer s0 H0 E) (lb 15) t ∧ ∀ (D : Ends) (σ : L2.St) (H : Hp) (dc x n d pr q : Addr) (l s i : Int) (c : List Call),
    SL dc x pr l s i σ → LP CE CC H dc x n d q Pl l s i c → (∀ (σ' : L2.St) (H' : Hp), SL dc x pr l s i σ' → LP CE CC H' dc x n d q Pl l s i c → D.nx σ' H') → t D σ H := by
  obtain ⟨fT, fdT, FT, gT⟩ := TT.d
  have kT := FT.kp
  have bT : Binds K fdT ["_law_what"] [] := FT.bindsN fun _ _ _ _ _ _ us hl => match us, hl with | [_], _ => rfl
  obtain ⟨oc, od, dV, kV, doc, pm, an, cdv, ct, osl, rfl, lk, hcd, _, _⟩ := FT.ex
  obtain ⟨fF, fdF, mF, GF, bF⟩ := D0.frame
  have hr5 : Room 5 _ := hr.mono (by decide)
  refine ⟨_, ps_if (pt_cmpR op_ne (LamX.pe_lamcall (T := [(Pl, lamQ)]) (Ng := ["_law_what"]) (k := 3) (t := fun E => tMeth CE "frame" (spFrame K CE CC BS Pf) [] E (tVar 5) (tCons (tLst tNil) tNil))
      rfl gT kT lk hcd bT scTold rfl (Or.inl rfl) (told9 TT.n9) TB rfl (List.mem_singleton.mpr rfl) (fun p hp _ => by rw [List.mem_singleton.mp hp]; rfl) hr5 (LamX.lamS_by (sc := defScope sLaw) (by decide +kernel)) rfl (fun _ _ _ _ _ => rfl)
      (fun A' outer' s' H' E' f' c' hr' => pe_meth (pv 5) D0.T.clE mF GF hr' bF .nil (passes_call (takes_of rfl rfl rfl rfl) fun _ _ _ _ h => h) (pa_cons (pe_lst pa_nil) pa_nil))) pe_str (nomark _)) (pss_one (ps_ret pe_bl)) pss_nil, ?_⟩
  intro D σ H dc x n d pr q l s i c hσ L k
  obtain ⟨v0, v7, v8, v9, v10, v11, v12, v13, v14, v15, v16, v17, v18, v19, v20, v21, v22, v23, v24, v25, v26, v27, rfl⟩ := hσ
  refine ⟨L.tabs, fun H1 e1 t1 => ?_⟩
  have L1 := L.ext e1 t1
  have noF : (xf l s i n).lookup ("frame" : Str) = none := xf_no _ _ _ _ (by decide +kernel)
  obtain ⟨⟨dx, hx⟩, _⟩ := id L1.ex
  refine ⟨_, rfl, x, dx, _, rfl, hx, noF, (by show 0 ≤ sizeLine; decide), fun e he => ?_⟩
  have L2' := L1.same (same_new (o := .lst []) he)
  refine ⟨x, n, d, e, l, s, i, c, rfl, L2'.ex, .inr ⟨SqL.of upd_same, wq_size TT.ex ?_⟩⟩
  refine ⟨rfl, _, rfl, ?_⟩
  rw [decide_eq_true (by rfl)]
  exact iteF (k _ _ SL.mk L2')
/-- the last row -/
abbrev lawRet : Stmt := (defBody sLaw).getD 1 (.Pass ⟨0, 0, 0, 0⟩)
theorem lawRet_ok (hr : Room 6 (A.deeper (envOfC "law" (defScope sLaw) s0.heap.objs.size f (.ref cc)))) (D0 : Defs P w K mg base CC CE BS BG Pf) (TT : ToldT K mg BG BN BR BS BK BP BT BO NS) (TB : LamX.TabB base mg cc Pl) : ∃ t, PS (LX P w K mg base f (.ref cc) A outer s0 H0 E) lawRet t ∧ ∀ (D : Ends) (σ : L2.St) (H : Hp),
    LamX.Tabs [(Pl, lamQ)] H → (∀ (H' : Hp), D.rt (.bl true) H') → t D σ H := by
  obtain ⟨fT, fdT, FT, gT⟩ := TT.d
  have kT := FT.kp
  have bT : Binds K fdT ["_law_what"] [] := FT.bindsN fun _ _ _ _ _ _ us hl => match us, hl with | [_], _ => rfl
  obtain ⟨oc, od, dV, kV, doc, pm, an, cdv, ct, osl, rfl, lk, hcd, _, _⟩ := FT.ex
  obtain ⟨fN, fdN, gN, kN, GN, bN⟩ := D0.needed
  obtain ⟨fM, fdM, MM, GM, bM⟩ := D0.make
  have hr1 : Room 1 _ := hr.mono (by decide)
  refine ⟨_, ps_ret (pe_and (pe_cmpR op_eq (pe_call GN hr1 rfl gN kN bN .nil pass0 (pa_cons pe_int (pa_cons pe_bl pa_nil))) pe_int (nomark _)) (pe_and (pe_cmpR op_eq (pe_call GN hr1 rfl gN kN bN .nil pass0 (pa_cons pe_int (pa_cons pe_bl pa_nil))) pe_int (nomark _))
      (pe_one (pe_cmpR op_eq (LamX.pe_lamcall (T := [(Pl, lamQ)]) (Ng := ["_law_what"]) (k := 4) (t := fun E => tMake CE (spXInit CE CC BS) [] E (tCons (tC (.int 1)) (tCons (tC (.int 0)) (tCons (tC (.int 1)) tNil))))
      rfl gT kT lk hcd bT scTold rfl (Or.inl rfl) (told9 TT.n9) TB rfl (List.mem_singleton.mpr rfl) (fun p hp _ => by rw [List.mem_singleton.mp hp]; rfl) hr (LamX.lamS_by (sc := defScope sLaw) (by decide +kernel)) rfl (fun _ _ _ _ _ => rfl)
      (fun A' outer' s' H' E' f' c' hr' => pe_make MM GM hr' rfl D0.gE bM .nil (passes_call (takes_of rfl rfl rfl rfl) fun _ _ _ _ h => h) (pa_cons pe_int (pa_cons pe_int (pa_cons pe_int pa_nil))))) pe_str (nomark _))))), ?_⟩
  intro D σ H t0 k
  refine ⟨3, true, rfl, rfl, _, rfl, ?_⟩
  rw [decide_eq_true (by rfl)]
  refine iteT ⟨3, false, rfl, rfl, _, rfl, ?_⟩
  rw [decide_eq_true (by rfl)]
  refine iteT ⟨t0, fun H1 e1 t1 => ?_⟩
  refine fun x dx hx hdx hne => ⟨x, dx, 1, 0, 1, rfl, upd_same, .inr ⟨⟨by omega, by omega⟩, wq_size TT.ex ?_⟩⟩
  refine ⟨rfl, ?_⟩
  rw [decide_eq_true (by rfl)]
  exact k _
end
end Clx
/-! ## K33 -/
set_option Elab.async false
set_option linter.all false
set_option maxRecDepth 100000
set_option maxHeartbeats 4000000
set_option pp.maxSteps 1500
set_option pp.deepTerms false
/-! ### the law -/
namespace Clx
open PySem PySem.Spec PyProof.Rows L2
section
variable {P : Program} {w : World} {K : PySem.W.Frag} {mg : Str → Option Value} {base : Heap} {f CC CE BS BG BN BR BK BP BT BO NS Pf Pl cc : Addr} {A : Around} {outer : List Env} {s0 : Shared} {H0 : Hp} {E : XK} {fd : FuncData}
def spLaw (K : PySem.W.Frag) (Pl Pf : Addr) : Sp := fun vs H Q _ => ∃ (a : Addr) (ns : List Int), vs = [.ref a] ∧ SqL K H a (ns.map V.int) ∧ H Pl = some (.tbl #[]) ∧ H Pf = some (.tbl #[]) ∧ ∀ H', Q (.bl true) H'
/-- the loop over the one round -/
theorem lawFor_ok (hr : Room 6 (A.deeper (envOfC "law" (defScope sLaw) s0.heap.objs.size f (.ref cc)))) (D0 : Defs P w K mg base CC CE BS BG Pf) (TT : ToldT K mg BG BN BR BS BK BP BT BO NS) (TB : LamX.TabB base mg cc Pl) (hPP : Pl ≠ Pf) : ∃ t, PS (LX P w K mg base f (.ref cc) A outer s0 H0 E) lawFor t ∧ ∀ (D : Ends) (a : Addr) (ns : List Int) (H : Hp),
    SqL K H a (ns.map V.int) → H Pl = some (.tbl #[]) → H Pf = some (.tbl #[]) → (∀ (σ' : L2.St) (H' : Hp), LamX.Tabs [(Pl, lamQ)] H' → D.nx σ' H') → t D (start NL [.ref a]) H := by
  have hr5 : Room 5 _ := hr.mono (by decide)
  have hr2 : Room 2 _ := hr.mono (by decide)
  obtain ⟨fRo, fdRo, gRo, kRo, GRo, bRo⟩ := D0.rounds
  obtain ⟨t0, p0, r0⟩ := law0 (E := E) (outer := outer) (H0 := H0) hr5 D0
  obtain ⟨t1, p1, r1⟩ := law1 (E := E) (outer := outer) (H0 := H0) hr5 D0
  obtain ⟨t2, p2, r2⟩ := law2 (E := E) (outer := outer) (H0 := H0) hr5 D0
  obtain ⟨t3, p3, r3⟩ := law3 (E := E) (outer := outer) (H0 := H0) hr5 D0
  obtain ⟨t4, p4, r4⟩ := law4 (E := E) (outer := outer) (H0 := H0) hr5 D0
  obtain ⟨t5, p5, r5⟩ := law5 (E := E) (outer := outer) (H0 := H0) hr5 D0
  obtain ⟨t6, p6, r6⟩ := law6 (E := E) (outer := outer) (H0 := H0) hr5 D0
  obtain ⟨t7, p7, r7⟩ := law7 (E := E) (outer := outer) (H0 := H0) hr5 D0
  obtain ⟨t8, p8, r8⟩ := law8 (E := E) (outer := outer) (H0 := H0) hr5 D0
  obtain ⟨t9, p9, r9⟩ := law9 (E := E) (outer := outer) (H0 := H0) hr5 D0
  obtain ⟨t10, p10, r10⟩ := law10 (E := E) (outer := outer) (H0 := H0) hr5 D0
  obtain ⟨t11, p11, r11⟩ := law11 (E := E) (outer := outer) (H0 := H0) hr5 D0
  obtain ⟨t12, p12, r12⟩ := law12 (E := E) (outer := outer) (H0 := H0) hr5 D0
  obtain ⟨t13, p13, r13⟩ := law13 (E := E) (outer := outer) (H0 := H0) hr5 D0
  obtain ⟨t14, p14, r14⟩ := law14 (E := E) (outer := outer) (H0 := H0) hr D0 TT TB
  obtain ⟨t15, p15, r15⟩ := law15 (E := E) (outer := outer) (H0 := H0) hr D0 TT TB
  obtain ⟨t16, p16, r16⟩ := law16 (E := E) (outer := outer) (H0 := H0) hr5 D0
  obtain ⟨t17, p17, r17⟩ := law17 (E := E) (outer := outer) (H0 := H0) hr5 D0
  obtain ⟨t18, p18, r18⟩ := law18 (E := E) (outer := outer) (H0 := H0) hr5 D0
  refine ⟨_, ps_for PassesOwn.never rfl (pi_list (pe_call GRo hr2 rfl gRo kRo bRo .nil pass0 (pa_cons (pv 0) (pa_cons pe_int pa_nil)))) (pg_name (i := 1) scLaw.nd rfl (Or.inr rfl))
    (pss_cons p0 (pss_cons p1 (pss_cons p2 (pss_cons p3 (pss_cons p4 (pss_cons p5 (pss_cons p6 (pss_cons p7 (pss_cons p8 (pss_cons p9 (pss_cons p10 (pss_cons p11 (pss_cons p12 (pss_cons p13 (pss_cons p14 (pss_cons p15 (pss_cons p16 (pss_cons p17 (pss_one p18))))))))))))))))))), ?_⟩
  intro D a ns H hS hPl hPf k
  refine ⟨_, rfl, a, ns, rfl, hS, fun dc q H1 S1 _ hd hq => ?_⟩
  refine ⟨q, rfl, ⟨_, SqL.of hq⟩, for_list (K := K) (a := q) (xs := [.ref dc]) (fun j σ Hc => (j = 0 ∧ σ = start NL [.ref a] ∧ Hc = H1) ∨ (1 ≤ j ∧ LamX.Tabs [(Pl, lamQ)] Hc ∧ Hc q = some (.lst [.ref dc])))
    (.inl ⟨rfl, rfl, rfl⟩) (fun j σ Hc _ h => ?_) ?_ ?_⟩
  · rcases h with ⟨_, _, rfl⟩ | ⟨_, _, h⟩
    · exact SqL.of hq
    · exact SqL.of h
  · rintro j y σ Hc hj h
    have hj0 : j = 0 := by
      have := (List.getElem?_eq_some_iff.mp hj).1
      simp at this
      exact this
    subst hj0
    obtain rfl : V.ref dc = y := Option.some.inj hj
    rcases h with ⟨_, rfl, rfl⟩ | ⟨h, _⟩
    · have hq0 : ∀ {b : Addr} {o : HO} {x y z : Int}, Hc dc = some (.lst [.int x, .int y, .int z]) → Hc b = some o → (∀ x y z : Int, o ≠ .lst [.int x, .int y, .int z]) → b ≠ dc := fun h1 h2 h3 e => by
        rw [e, h1] at h2
        exact h3 _ _ _ (Option.some.inj h2).symm
      obtain ⟨d1, d2, d3, hdc⟩ := id hd
      have nq : q ≠ dc := hq0 hdc hq (fun _ _ _ e => by cases e)
      have nl : Pl ≠ dc := hq0 hdc (S1 _ _ hPl) (fun _ _ _ e => by cases e)
      have nf : Pf ≠ dc := hq0 hdc (S1 _ _ hPf) (fun _ _ _ e => by cases e)
      refine r0 _ _ Hc dc _ rfl hd fun l s H2 hl1 hl3 hs1 hs3 hd2 B2 => ?_
      refine r1 _ _ _ H2 dc l s _ hs1 hs3 hd2 fun i H3 hi1 hi2 hd3 B3 => ?_
      have B := B2.trans B3
      refine r2 _ _ _ _ H3 dc Pl q l s i _ rfl hs1 hs3 hl1 hl3 hi1 hi2 hd3 (B _ _ nl (S1 _ _ hPl)) ⟨_, B _ _ nf (S1 _ _ hPf), trivial⟩ (B _ _ nq hq) fun x n d pr ps H4 L4 => ?_
      refine r3 _ _ _ _ _ H4 dc x n d pr Pl q l s i [] ps _ L4 fun od os H5 L5 hperm hod => ?_
      refine r4 _ _ _ _ _ _ _ H5 dc x n d pr od Pl q l s i ps os _ L5 hperm hod fun v11 v12 c H6 L6 K6 => ?_
      refine r5 _ _ H6 dc x n d pr Pl q l s i c ps SL.mk L6 fun σ7 gd gs H7 h7 g7 L7 e7 _ G7 => ?_
      refine r6 _ σ7 H7 dc x n d pr Pl q gd l s i c ps gs h7 g7 L7 K6 e7 G7 fun σ8 H8 h8 g8 L8 e8 => ?_
      refine r7 _ σ8 H8 dc x n d pr Pl q gd l s i _ ps gs h8 g8 L8 e8 fun σ9 pr2 H9 h9 L9 => ?_
      have K9 : Link (c.filter fun e => decide (e.one ∉ gs)) (cutPs ps gs) := cut_link K6
      have hb := L9.bd
      refine r8 _ σ9 H9 dc x n d pr2 Pl q l s i _ _ h9 L9 fun σ10 ca rows H10 h10 a10 L10 C10 => ?_
      refine r9 _ σ10 H10 dc x pr2 ca l s i h10 a10 ⟨hb.2.2.1, hb.2.2.2.1⟩ ⟨hb.1, hb.2.1⟩ fun σ11 dd os2 H11 h11 a11 b11 R11 => ?_
      refine r10 _ σ11 H10 H11 dc x n d pr2 Pl q ca dd l s i _ _ rows os2 h11 a11 b11 L10 R11 fun σ12 H12 h12 a12 b12 S12 e12 Du => ?_
      refine r11 _ σ12 H12 dc x n d pr2 Pl q ca dd l s i _ _ rows os2 h12 a12 b12 (L10.same S12) hPP K9 (C10.same S12) e12 Du fun σ13 H13 h13 L13 => ?_
      refine r12 _ σ13 H13 dc x n d pr2 Pl q l s i _ _ h13 L13 K9 fun σ14 H14 h14 L14 => ?_
      refine r13 _ σ14 H14 dc x n d pr2 Pl q l s i _ _ h14 L14 fun σ15 h15 => ?_
      refine r14 _ σ15 H14 dc x n d pr2 q l s i _ h15 L14.lp fun σ16 H16 h16 L16 => ?_
      refine r15 _ σ16 H16 dc x n d pr2 q l s i _ h16 L16 fun σ17 H17 h17 L17 => ?_
      refine r16 _ σ17 H17 dc x pr2 l s i h17 L17.dice fun σ18 u v z H18 h18 a18 b18 c18 hu hv hz hd18 B18 => ?_
      have L18 := L17.but B18 hd18
      refine r17 _ σ18 H18 dc x pr2 l s i u v z h18 a18 b18 c18 hu hv fun σ19 H19 h19 a19 b19 c19 d19 S19 => ?_
      refine r18 _ σ19 H19 dc x pr2 l s i u v z h19 a19 b19 c19 hu hv hz d19 fun σ20 H20 h20 S20 => ?_
      have L20 := (L18.same S19).same S20
      exact .inr ⟨Nat.le_refl _, L20.tabs, L20.lq⟩
    · exact absurd h (by decide)
  · rintro σ Hc h
    rcases h with ⟨h, _⟩ | ⟨_, h, _⟩
    · cases h
    · exact k σ Hc h
theorem ok_law (F : FnS K "law" "law" sLaw f fd) (D0 : Defs P w K mg base CC CE BS BG Pf) (TT : ToldT K mg BG BN BR BS BK BP BT BO NS) (TB : ∀ c, fd.code = .ref c → LamX.TabB base mg c Pl) (hPP : Pl ≠ Pf) : FnOk P w K mg base CX0 7 f fd ["_law_script"] (spLaw K Pl Pf) := by
  refine okC F scLaw (fun vs H Q E h => ?_) (fun cd A outer s0 H vs Q E hcd hr h => ?_)
  · obtain ⟨a, ns, rfl, _⟩ := h
    rfl
  · obtain ⟨a, ns, rfl, hS, hPl, hPf, k⟩ := h
    obtain ⟨t, p, r⟩ := lawFor_ok (E := E) (outer := outer) (H0 := H) hr D0 TT (TB cd hcd) hPP
    obtain ⟨u, q, z⟩ := lawRet_ok (E := E) (outer := outer) (H0 := H) hr D0 TT (TB cd hcd)
    exact ⟨_, PSs.nox (pss_cons p (pss_one q)), r _ a ns H hS hPl hPf fun σ' H' tb => z _ σ' H' tb fun H2 => k H2⟩
end
end Clx
/-! ## K34 -/
set_option Elab.async false
set_option linter.all false
set_option maxRecDepth 100000
set_option maxHeartbeats 4000000
set_option pp.maxSteps 1500
set_option pp.deepTerms false
/-! ### the head's facts -/
namespace Clx
open PySem PySem.Spec PyProof.Rows L2
def Dc_init : He.DefD := ⟨("Clos", some "__init__"), "__init__", "Clos.__init__", defArgs sCInit, defBody sCInit, defScope sCInit, [], []⟩
def Dc_size : He.DefD := ⟨("Clos", some "size"), "size", "Clos.size", defArgs sSize, defBody sSize, defScope sSize, [], []⟩
def Dc_check : He.DefD := ⟨("Clos", some "check"), "check", "Clos.check", defArgs sCheck, defBody sCheck, defScope sCheck, [], []⟩
def Dc_ends : He.DefD := ⟨("Clos", some "ends"), "ends", "Clos.ends", defArgs sEnds, defBody sEnds, defScope sEnds, [], []⟩
def Dc_used_in : He.DefD := ⟨("Clos", some "used_in"), "used_in", "Clos.used_in", defArgs sUsedIn, defBody sUsedIn, defScope sUsedIn, [], []⟩
def Dc_used_out : He.DefD := ⟨("Clos", some "used_out"), "used_out", "Clos.used_out", defArgs sUsedOut, defBody sUsedOut, defScope sUsedOut, [], []⟩
def Dc_free_middle : He.DefD := ⟨("Clos", some "free_middle"), "free_middle", "Clos.free_middle", defArgs sFreeM, defBody sFreeM, defScope sFreeM, [], []⟩
def Dc_end : He.DefD := ⟨("Clos", some "end"), "end", "Clos.end", defArgs sEnd, defBody sEnd, defScope sEnd, [], []⟩
def Dc_put_moving : He.DefD := ⟨("Clos", some "put_moving"), "put_moving", "Clos.put_moving", defArgs sPutM, defBody sPutM, defScope sPutM, [], []⟩
def Dc_exchange : He.DefD := ⟨("Clos", some "exchange"), "exchange", "Clos.exchange", defArgs sExchange, defBody sExchange, defScope sExchange, [], []⟩
def Dc_at : He.DefD := ⟨("Clos", some "at"), "at", "Clos.at", defArgs sAt, defBody sAt, defScope sAt, [], []⟩
def Dc_shown : He.DefD := ⟨("Clos", some "shown"), "shown", "Clos.shown", defArgs sShown, defBody sShown, defScope sShown, [], []⟩
def Dx_init : He.DefD := ⟨("Exchange", some "__init__"), "__init__", "Exchange.__init__", defArgs sXInit, defBody sXInit, defScope sXInit, [], []⟩
def Dx_spot : He.DefD := ⟨("Exchange", some "spot"), "spot", "Exchange.spot", defArgs sSpot, defBody sSpot, defScope sSpot, [], []⟩
def Dx_connect : He.DefD := ⟨("Exchange", some "connect"), "connect", "Exchange.connect", defArgs sConnect, defBody sConnect, defScope sConnect, [], []⟩
def Dx_part : He.DefD := ⟨("Exchange", some "part"), "part", "Exchange.part", defArgs sPart, defBody sPart, defScope sPart, [], []⟩
def Dx_reads : He.DefD := ⟨("Exchange", some "reads"), "reads", "Exchange.reads", defArgs sReads, defBody sReads, defScope sReads, [], []⟩
def Dx_joins : He.DefD := ⟨("Exchange", some "joins"), "joins", "Exchange.joins", defArgs sJoins, defBody sJoins, defScope sJoins, [], []⟩
def Dx_writes : He.DefD := ⟨("Exchange", some "writes"), "writes", "Exchange.writes", defArgs sWrites, defBody sWrites, defScope sWrites, [], []⟩
def Dx_frame : He.DefD := ⟨("Exchange", some "frame"), "frame", "Exchange.frame", defArgs sFrame, defBody sFrame, defScope sFrame, [], []⟩
def Dt_inner_needed : He.DefD := ⟨("inner_needed", none), "inner_needed", "inner_needed", defArgs sNeeded, defBody sNeeded, defScope sNeeded, [], []⟩
def Dt_wait_of : He.DefD := ⟨("wait_of", none), "wait_of", "wait_of", defArgs sWait, defBody sWait, defScope sWait, [], []⟩
def Dt_law_dice : He.DefD := ⟨("_law_dice", none), "_law_dice", "_law_dice", defArgs sDice, defBody sDice, defScope sDice, [], []⟩
def Dt_law_roll : He.DefD := ⟨("_law_roll", none), "_law_roll", "_law_roll", defArgs sRoll, defBody sRoll, defScope sRoll, [], []⟩
def Dt_law_rounds : He.DefD := ⟨("_law_rounds", none), "_law_rounds", "_law_rounds", defArgs sRounds, defBody sRounds, defScope sRounds, [], []⟩
def Dt_law_told : He.DefD := ⟨("_law_told", none), "_law_told", "_law_told", defArgs sTold, defBody sTold, defScope sTold, [], []⟩
def Dt_law_full : He.DefD := ⟨("_law_full", none), "_law_full", "_law_full", defArgs sFull, defBody sFull, defScope sFull, [], []⟩
def Dt_law_part : He.DefD := ⟨("_law_part", none), "_law_part", "_law_part", defArgs sPart2, defBody sPart2, defScope sPart2, [], []⟩
def Dt_law : He.DefD := ⟨("law", none), "law", "law", defArgs sLaw, defBody sLaw, defScope sLaw, [], []⟩
def fn : List He.DefD := [Dc_init, Dc_size, Dc_check, Dc_ends, Dc_used_in, Dc_used_out, Dc_free_middle, Dc_end, Dc_put_moving, Dc_exchange, Dc_at, Dc_shown, Dx_init, Dx_spot, Dx_connect, Dx_part, Dx_reads, Dx_joins, Dx_writes, Dx_frame, Dt_inner_needed, Dt_wait_of, Dt_law_dice, Dt_law_roll, Dt_law_rounds, Dt_law_told, Dt_law_full, Dt_law_part, Dt_law]
def fa : List He.Fa := [.glo "Clos", .glo "Exchange", .glo "inner_needed", .glo "wait_of", .glo "_law_dice", .glo "_law_roll", .glo "_law_rounds", .glo "_law_told", .glo "_law_full", .glo "_law_part", .glo "law", .glo "BadGate", .glo "BadNet", .glo "BadRate", .glo "BadSize", .glo "Blocked", .glo "BadPaper", .glo "BadText", .glo "BadStore", .glo "NoSuch", .free "sorted", .free "range", .free "tuple", .free "len", .free "any", .free "enumerate", .free "list", .free "abs", .free "int", .cls "Clos", .mkr "Clos", .cls "Exchange", .mkr "Exchange", .noat "Clos" "middle", .noat "Clos" "gates", .noat "Clos" "switches", .noat "Clos" "calls", .noat "Exchange" "lines", .noat "Exchange" "slots", .noat "Exchange" "inner", .noat "Exchange" "net", .meth "Clos" "size", .meth "Clos" "check", .meth "Clos" "ends", .meth "Clos" "used_in", .meth "Clos" "used_out", .meth "Clos" "free_middle", .meth "Clos" "end", .meth "Clos" "put_moving", .meth "Clos" "exchange", .meth "Clos" "at", .meth "Clos" "shown", .meth "Exchange" "spot", .meth "Exchange" "connect", .meth "Exchange" "part", .meth "Exchange" "reads", .meth "Exchange" "joins", .meth "Exchange" "writes", .meth "Exchange" "frame", .exc "BadGate", .exc "BadSize", .exm "BadGate" "BadGate" true, .exm "BadSize" "BadGate" false, .exm "BadSize" "BadNet" false, .exm "BadSize" "BadRate" false, .exm "BadSize" "BadSize" true]
def pL : He.Defn := ("law", none)
def pF : He.Defn := ("Exchange", some "frame")
def tf : List He.Defn := [pL, pF]
def exT (K : PySem.W.Frag) : Bool := !decide ((He.cT K pL).2 = (He.cT K pF).2)
/-- the two tables -/
abbrev csT (K : PySem.W.Frag) : List (Addr × Addr) := [He.cT K pL, He.cT K pF]
theorem tabG_of {base : Heap} {mg : Str → Option Value} {c P : Addr} (t : LamX.TabB base mg c P) : GxR.TabB base mg c P := ⟨t.code, t.bm, t.gP⟩
theorem excT_of {K : PySem.W.Frag} {h : Heap} {mg : Str → Option Value} {x : Str} (g : mg x = some (.ref (He.ga K x))) (c : (He.Fa.exc x).ok K = true) : ExcT K mg x (He.ga K x) := by
  obtain ⟨h1, h2, h3, h4⟩ := He.exc_ok c
  exact ⟨g, h1, h2, h3, h4⟩
theorem tab_of {K : PySem.W.Frag} {x qual : Str} {st : Stmt} {fd : FuncData} {p : He.Defn} {c : Addr} (F : FnS K x qual st (He.fAd K p) fd) (e : fd.code = .ref c) : (He.cT K p).1 = c := by
  obtain ⟨oc, od, dV, kV, doc, pm, an, cdv, ct, osl, rfl, lk, _⟩ := F.ex
  exact He.codeOf_eq lk e
theorem facts {P : Program} {w : World} {K : PySem.W.Frag} {h : Heap} {mg : Str → Option Value} {f : Addr} (X : K.In h) (G : h.Ns mainGlobals mg) (hfa : mg ("law" : Str) = some (.ref f)) (c : He.SaysX fa fn [] tf exT w h K) :
    ∃ fd : FuncData, (∀ (s : Shared) (v : Value), BindsTo s fd ⟨[v], []⟩ [("_law_script", v)]) ∧ ∀ base : Heap, K.In base → base.Ns mainGlobals mg → (∀ p ∈ csT K, LamX.TabB base mg p.1 p.2) → FnOk P w K mg base CX0 7 f fd ["_law_script"] (spLaw K (He.cT K pL).2 (He.cT K pF).2) := by
  have c0 : He.SaysD fa fn K := He.SaysT.d c.t
  obtain ⟨fd_c_init, F_c_init⟩ := c0.def_ 0 (d := Dc_init) rfl
  obtain ⟨fd_c_size, F_c_size⟩ := c0.def_ 1 (d := Dc_size) rfl
  obtain ⟨fd_c_check, F_c_check⟩ := c0.def_ 2 (d := Dc_check) rfl
  obtain ⟨fd_c_ends, F_c_ends⟩ := c0.def_ 3 (d := Dc_ends) rfl
  obtain ⟨fd_c_used_in, F_c_used_in⟩ := c0.def_ 4 (d := Dc_used_in) rfl
  obtain ⟨fd_c_used_out, F_c_used_out⟩ := c0.def_ 5 (d := Dc_used_out) rfl
  obtain ⟨fd_c_free_middle, F_c_free_middle⟩ := c0.def_ 6 (d := Dc_free_middle) rfl
  obtain ⟨fd_c_end, F_c_end⟩ := c0.def_ 7 (d := Dc_end) rfl
  obtain ⟨fd_c_put_moving, F_c_put_moving⟩ := c0.def_ 8 (d := Dc_put_moving) rfl
  obtain ⟨fd_c_exchange, F_c_exchange⟩ := c0.def_ 9 (d := Dc_exchange) rfl
  obtain ⟨fd_c_at, F_c_at⟩ := c0.def_ 10 (d := Dc_at) rfl
  obtain ⟨fd_c_shown, F_c_shown⟩ := c0.def_ 11 (d := Dc_shown) rfl
  obtain ⟨fd_x_init, F_x_init⟩ := c0.def_ 12 (d := Dx_init) rfl
  obtain ⟨fd_x_spot, F_x_spot⟩ := c0.def_ 13 (d := Dx_spot) rfl
  obtain ⟨fd_x_connect, F_x_connect⟩ := c0.def_ 14 (d := Dx_connect) rfl
  obtain ⟨fd_x_part, F_x_part⟩ := c0.def_ 15 (d := Dx_part) rfl
  obtain ⟨fd_x_reads, F_x_reads⟩ := c0.def_ 16 (d := Dx_reads) rfl
  obtain ⟨fd_x_joins, F_x_joins⟩ := c0.def_ 17 (d := Dx_joins) rfl
  obtain ⟨fd_x_writes, F_x_writes⟩ := c0.def_ 18 (d := Dx_writes) rfl
  obtain ⟨fd_x_frame, F_x_frame⟩ := c0.def_ 19 (d := Dx_frame) rfl
  obtain ⟨fd_t_inner_needed, F_t_inner_needed⟩ := c0.def_ 20 (d := Dt_inner_needed) rfl
  obtain ⟨fd_t_wait_of, F_t_wait_of⟩ := c0.def_ 21 (d := Dt_wait_of) rfl
  obtain ⟨fd_t_law_dice, F_t_law_dice⟩ := c0.def_ 22 (d := Dt_law_dice) rfl
  obtain ⟨fd_t_law_roll, F_t_law_roll⟩ := c0.def_ 23 (d := Dt_law_roll) rfl
  obtain ⟨fd_t_law_rounds, F_t_law_rounds⟩ := c0.def_ 24 (d := Dt_law_rounds) rfl
  obtain ⟨fd_t_law_told, F_t_law_told⟩ := c0.def_ 25 (d := Dt_law_told) rfl
  obtain ⟨fd_t_law_full, F_t_law_full⟩ := c0.def_ 26 (d := Dt_law_full) rfl
  obtain ⟨fd_t_law_part, F_t_law_part⟩ := c0.def_ 27 (d := Dt_law_part) rfl
  obtain ⟨fd_t_law, F_t_law⟩ := c0.def_ 28 (d := Dt_law) rfl
  have T : Txt K mg (He.ga K "Clos") (He.ga K "Exchange") := ⟨He.cls_ok (c0.fact 29 (f := .cls "Clos") rfl), He.cls_ok (c0.fact 31 (f := .cls "Exchange") rfl), (He.noat_ok (c0.fact 33 (f := .noat "Clos" "middle") rfl)), (He.noat_ok (c0.fact 34 (f := .noat "Clos" "gates") rfl)), (He.noat_ok (c0.fact 35 (f := .noat "Clos" "switches") rfl)), (He.noat_ok (c0.fact 36 (f := .noat "Clos" "calls") rfl)), (He.noat_ok (c0.fact 37 (f := .noat "Exchange" "lines") rfl)), (He.noat_ok (c0.fact 38 (f := .noat "Exchange" "slots") rfl)), (He.noat_ok (c0.fact 39 (f := .noat "Exchange" "inner") rfl)), (He.noat_ok (c0.fact 40 (f := .noat "Exchange" "net") rfl)), (He.free_ok X G (c0.fact 20 (f := .free "sorted") rfl)), (He.free_ok X G (c0.fact 21 (f := .free "range") rfl)), (He.free_ok X G (c0.fact 22 (f := .free "tuple") rfl)), (He.free_ok X G (c0.fact 23 (f := .free "len") rfl)), (He.free_ok X G (c0.fact 24 (f := .free "any") rfl)), (He.free_ok X G (c0.fact 25 (f := .free "enumerate") rfl)), (He.free_ok X G (c0.fact 26 (f := .free "list") rfl)), (He.free_ok X G (c0.fact 27 (f := .free "abs") rfl)), (He.free_ok X G (c0.fact 28 (f := .free "int") rfl))⟩
  have TG : ExcT K mg "BadGate" (He.ga K "BadGate") := excT_of (h := h) (He.glo_ok X G (c0.fact 11 (f := .glo "BadGate") rfl)) (c0.fact 59 (f := .exc "BadGate") rfl)
  have TS : ExcT K mg "BadSize" (He.ga K "BadSize") := excT_of (h := h) (He.glo_ok X G (c0.fact 14 (f := .glo "BadSize") rfl)) (c0.fact 60 (f := .exc "BadSize") rfl)
  have M_c_size := He.meth_ok (c0.fact 41 (f := .meth "Clos" "size") rfl)
  have M_c_check := He.meth_ok (c0.fact 42 (f := .meth "Clos" "check") rfl)
  have M_c_ends := He.meth_ok (c0.fact 43 (f := .meth "Clos" "ends") rfl)
  have M_c_used_in := He.meth_ok (c0.fact 44 (f := .meth "Clos" "used_in") rfl)
  have M_c_used_out := He.meth_ok (c0.fact 45 (f := .meth "Clos" "used_out") rfl)
  have M_c_free_middle := He.meth_ok (c0.fact 46 (f := .meth "Clos" "free_middle") rfl)
  have M_c_end := He.meth_ok (c0.fact 47 (f := .meth "Clos" "end") rfl)
  have M_c_put_moving := He.meth_ok (c0.fact 48 (f := .meth "Clos" "put_moving") rfl)
  have M_c_exchange := He.meth_ok (c0.fact 49 (f := .meth "Clos" "exchange") rfl)
  have M_c_at := He.meth_ok (c0.fact 50 (f := .meth "Clos" "at") rfl)
  have M_c_shown := He.meth_ok (c0.fact 51 (f := .meth "Clos" "shown") rfl)
  have M_x_spot := He.meth_ok (c0.fact 52 (f := .meth "Exchange" "spot") rfl)
  have M_x_connect := He.meth_ok (c0.fact 53 (f := .meth "Exchange" "connect") rfl)
  have M_x_part := He.meth_ok (c0.fact 54 (f := .meth "Exchange" "part") rfl)
  have M_x_reads := He.meth_ok (c0.fact 55 (f := .meth "Exchange" "reads") rfl)
  have M_x_joins := He.meth_ok (c0.fact 56 (f := .meth "Exchange" "joins") rfl)
  have M_x_writes := He.meth_ok (c0.fact 57 (f := .meth "Exchange" "writes") rfl)
  have M_x_frame := He.meth_ok (c0.fact 58 (f := .meth "Exchange" "frame") rfl)
  have g_law_dice := He.glo_ok X G (c0.fact 4 (f := .glo "_law_dice") rfl)
  have g_law_roll := He.glo_ok X G (c0.fact 5 (f := .glo "_law_roll") rfl)
  have g_law_rounds := He.glo_ok X G (c0.fact 6 (f := .glo "_law_rounds") rfl)
  have g_law_told := He.glo_ok X G (c0.fact 7 (f := .glo "_law_told") rfl)
  have g_law_full := He.glo_ok X G (c0.fact 8 (f := .glo "_law_full") rfl)
  have g_law_part := He.glo_ok X G (c0.fact 9 (f := .glo "_law_part") rfl)
  have g_inner_needed := He.glo_ok X G (c0.fact 2 (f := .glo "inner_needed") rfl)
  have g_wait_of := He.glo_ok X G (c0.fact 3 (f := .glo "wait_of") rfl)
  have hL : f = He.ga K "law" := by
    have e := hfa.symm.trans (He.glo_ok X G (c0.fact 10 (f := .glo "law") rfl))
    exact (Value.ref.inj (Option.some.inj e))
  subst hL
  have hPP : (He.cT K pL).2 ≠ (He.cT K pF).2 := fun z => by
    have q : exT K = true := c.more
    unfold exT at q
    rw [decide_eq_true z] at q
    cases q
  have b := FunD.bindsA (ps := ["_law_script"]) F_t_law fun _ _ _ _ _ _ us hl => match us, hl with | [_], _ => rfl
  refine ⟨fd_t_law, fun s v => b s [v] rfl, fun base _ _ hTB => ?_⟩
  have TBL : ∀ cc, fd_t_law.code = .ref cc → LamX.TabB base mg cc (He.cT K pL).2 := fun cc e => by
    have q := hTB (He.cT K pL) List.mem_cons_self
    rw [tab_of (x := "law") (qual := "law") (st := sLaw) (p := pL) F_t_law e] at q
    exact q
  have TBF : ∀ cc, fd_x_frame.code = .ref cc → GxR.TabB base mg cc (He.cT K pF).2 := fun cc e => by
    have q := hTB (He.cT K pF) (List.mem_cons_of_mem _ List.mem_cons_self)
    rw [tab_of (x := "frame") (qual := "Exchange.frame") (st := sFrame) (p := pF) F_x_frame e] at q
    exact tabG_of q
  have Grounds : FnG P w K mg base CX0 "_law_rounds" 2 ["_law_script", "_law_most"] (spRounds K) := ⟨_, _, g_law_rounds, F_t_law_rounds.kp, ok_rounds F_t_law_rounds T F_t_law_dice g_law_dice, (FunD.bindsN F_t_law_rounds fun _ _ _ _ _ _ us hl => match us, hl with | [_, _], _ => rfl)⟩
  have Groll : FnG P w K mg base CX0 "_law_roll" 1 ["_law_dice_here", "_law_many"] spRoll := ⟨_, _, g_law_roll, F_t_law_roll.kp, ok_roll F_t_law_roll T, (FunD.bindsN F_t_law_roll fun _ _ _ _ _ _ us hl => match us, hl with | [_, _], _ => rfl)⟩
  have Gfull : FnG P w K mg base CX0 "_law_full" 2 ["_law_dice_here", "_law_many"] spFull := ⟨_, _, g_law_full, F_t_law_full.kp, ok_full F_t_law_full T F_t_law_roll g_law_roll, (FunD.bindsN F_t_law_full fun _ _ _ _ _ _ us hl => match us, hl with | [_, _], _ => rfl)⟩
  have Gpart : FnG P w K mg base CX0 "_law_part" 3 ["_law_dice_here", "_law_many"] spPart2 := ⟨_, _, g_law_part, F_t_law_part.kp, ok_part2 F_t_law_part T F_t_law_roll g_law_roll F_t_law_full g_law_full, (FunD.bindsN F_t_law_part fun _ _ _ _ _ _ us hl => match us, hl with | [_, _], _ => rfl)⟩
  have Gwait : FnG P w K mg base CX0 "wait_of" 1 ["slot", "inner_slot", "goal", "slots"] spWait := ⟨_, _, g_wait_of, F_t_wait_of.kp, ok_wait F_t_wait_of, (FunD.bindsN F_t_wait_of fun _ _ _ _ _ _ us hl => match us, hl with | [_, _, _, _], _ => rfl)⟩
  have Gneeded : FnG P w K mg base CX0 "inner_needed" 1 ["slots", "moving"] spNeeded := ⟨_, _, g_inner_needed, F_t_inner_needed.kp, ok_needed F_t_inner_needed, (FunD.bindsN F_t_inner_needed fun _ _ _ _ _ _ us hl => match us, hl with | [_, _], _ => rfl)⟩
  have GP : FnOk P w K mg base CX0 4 _ fd_c_put_moving ["self", "one", "other"] (spPutM (He.ga K "Clos")) := ok_putm F_c_put_moving T F_c_check M_c_check F_c_size M_c_size F_c_free_middle M_c_free_middle F_c_ends M_c_ends F_c_used_in M_c_used_in F_c_used_out M_c_used_out F_c_exchange M_c_exchange F_c_at M_c_at
  have bP : L2.Binds K fd_c_put_moving ["self", "one", "other"] [] := (FunD.bindsN F_c_put_moving fun _ _ _ _ _ _ us hl => match us, hl with | [_, _, _], _ => rfl)
  have Mspot : MtG P w K mg base (L2.CX P w) (He.ga K "Exchange") "spot" 1 ["self", "line", "slot"] (spSpot (He.ga K "Exchange") (He.ga K "Clos") (He.ga K "BadGate")) := ⟨_, _, M_x_spot, ok_spot F_x_spot T TG, (FunD.bindsN F_x_spot fun _ _ _ _ _ _ us hl => match us, hl with | [_, _, _], _ => rfl)⟩
  have Mconnect : MtG P w K mg base CX0 (He.ga K "Exchange") "connect" 5 ["self", "line", "slot", "other", "goal"] (spConnect (He.ga K "Exchange") (He.ga K "Clos")) := ⟨_, _, M_x_connect, ok_connect F_x_connect T TG F_x_spot M_x_spot GP bP M_c_put_moving, (FunD.bindsN F_x_connect fun _ _ _ _ _ _ us hl => match us, hl with | [_, _, _, _, _], _ => rfl)⟩
  have Mcut : MtG P w K mg base CX0 (He.ga K "Exchange") "part" 2 ["self", "line", "slot"] (spPart (He.ga K "Exchange") (He.ga K "Clos")) := ⟨_, _, M_x_part, ok_part F_x_part T TG F_x_spot M_x_spot F_c_end M_c_end, (FunD.bindsN F_x_part fun _ _ _ _ _ _ us hl => match us, hl with | [_, _, _], _ => rfl)⟩
  have Mreads : MtG P w K mg base CX0 (He.ga K "Exchange") "reads" 2 ["self", "line"] (spReads (He.ga K "Exchange") (He.ga K "Clos")) := ⟨_, _, M_x_reads, ok_reads F_x_reads T F_c_shown M_c_shown, (FunD.bindsN F_x_reads fun _ _ _ _ _ _ us hl => match us, hl with | [_, _], _ => rfl)⟩
  have Mwrites : MtG P w K mg base CX0 (He.ga K "Exchange") "writes" 2 ["self", "line"] (spWrites (He.ga K "Exchange") (He.ga K "Clos")) := ⟨_, _, M_x_writes, ok_writes F_x_writes T F_c_shown M_c_shown, (FunD.bindsN F_x_writes fun _ _ _ _ _ _ us hl => match us, hl with | [_, _], _ => rfl)⟩
  have Mjoins : MtG P w K mg base CX0 (He.ga K "Exchange") "joins" 2 ["self", "number"] (spJoins (He.ga K "Exchange") (He.ga K "Clos")) := ⟨_, _, M_x_joins, ok_joins F_x_joins T F_c_shown M_c_shown, (FunD.bindsN F_x_joins fun _ _ _ _ _ _ us hl => match us, hl with | [_, _], _ => rfl)⟩
  have Mframe : MtG P w K mg base (L2.CX P w) (He.ga K "Exchange") "frame" 3 ["self", "cells"] (spFrame K (He.ga K "Exchange") (He.ga K "Clos") (He.ga K "BadSize") (He.cT K pF).2) := ⟨_, _, M_x_frame, ok_frame F_x_frame T TS TBF (ok_joins F_x_joins T F_c_shown M_c_shown) (FunD.bindsN F_x_joins fun _ _ _ _ _ _ us hl => match us, hl with | [_, _], _ => rfl) M_x_joins (ok_writes F_x_writes T F_c_shown M_c_shown) (FunD.bindsN F_x_writes fun _ _ _ _ _ _ us hl => match us, hl with | [_, _], _ => rfl) M_x_writes (ok_reads F_x_reads T F_c_shown M_c_shown) (FunD.bindsN F_x_reads fun _ _ _ _ _ _ us hl => match us, hl with | [_, _], _ => rfl) M_x_reads, (FunD.bindsN F_x_frame fun _ _ _ _ _ _ us hl => match us, hl with | [_, _], _ => rfl)⟩
  have D0 : Defs P w K mg base (He.ga K "Clos") (He.ga K "Exchange") (He.ga K "BadSize") (He.ga K "BadGate") (He.cT K pF).2 := ⟨T, Grounds, Groll, Gfull, Gpart, Gwait, Gneeded, (He.glo_ok X G (c0.fact 1 (f := .glo "Exchange") rfl)), ⟨_, _, He.mkr_ok (c0.fact 32 (f := .mkr "Exchange") rfl), ok_xinit F_x_init T TS F_c_init (He.mkr_ok (c0.fact 30 (f := .mkr "Clos") rfl)) (He.glo_ok X G (c0.fact 0 (f := .glo "Clos") rfl)), (FunD.bindsN F_x_init fun _ _ _ _ _ _ us hl => match us, hl with | [_, _, _, _], _ => rfl)⟩, Mspot, Mconnect, Mcut, Mreads, Mwrites, Mjoins, Mframe⟩
  have TT : ToldT K mg (He.ga K "BadGate") (He.ga K "BadNet") (He.ga K "BadRate") (He.ga K "BadSize") (He.ga K "Blocked") (He.ga K "BadPaper") (He.ga K "BadText") (He.ga K "BadStore") (He.ga K "NoSuch") := ⟨⟨_, _, F_t_law_told, g_law_told⟩, ⟨(He.glo_ok X G (c0.fact 11 (f := .glo "BadGate") rfl)), (He.glo_ok X G (c0.fact 12 (f := .glo "BadNet") rfl)), (He.glo_ok X G (c0.fact 13 (f := .glo "BadRate") rfl)), (He.glo_ok X G (c0.fact 14 (f := .glo "BadSize") rfl)), (He.glo_ok X G (c0.fact 15 (f := .glo "Blocked") rfl)), (He.glo_ok X G (c0.fact 16 (f := .glo "BadPaper") rfl)), (He.glo_ok X G (c0.fact 17 (f := .glo "BadText") rfl)), (He.glo_ok X G (c0.fact 18 (f := .glo "BadStore") rfl)), (He.glo_ok X G (c0.fact 19 (f := .glo "NoSuch") rfl))⟩, ⟨He.exm_ok (c0.fact 61 (f := .exm "BadGate" "BadGate" true) rfl), He.exm_ok (c0.fact 62 (f := .exm "BadSize" "BadGate" false) rfl), He.exm_ok (c0.fact 63 (f := .exm "BadSize" "BadNet" false) rfl), He.exm_ok (c0.fact 64 (f := .exm "BadSize" "BadRate" false) rfl), He.exm_ok (c0.fact 65 (f := .exm "BadSize" "BadSize" true) rfl)⟩⟩
  exact ok_law F_t_law D0 TT TBL hPP
end Clx
/-! ## K35 -/
set_option Elab.async false
set_option linter.all false
set_option maxRecDepth 100000
set_option maxHeartbeats 0
/-! ### the head, the end -/
namespace Clx
open PySem PySem.Spec PyProof.Rows L2
abbrev R : PySem.W.OpenRow := PySem.W.OpenLaw.row PySem.Challenge.rw_crossloom_k27_slots_of_lines_exchanged
abbrev hk : PySem.W.Hook := He.hookX 6 fa fn [] tf exT
def ob (s : PySem.W.SharedT) : He.AlX := He.obsX 6 fa fn [] tf exT (HandSHeadRun.getT s)
theorem ob_eq (s : PySem.W.SharedT) : ob s = hk.obs s.abs := He.obsX_eq (HandSHeadRun.getT_eq s)
abbrev loose : List PySem.Str := ["_wall", "FabricFault", "BadGate", "BadNet", "BadRate", "BadSize", "Blocked", "BadPaper", "BadText", "BadStore", "NoSuch", "Clos", "Exchange", "inner_needed", "wait_of", "_law_dice", "_law_roll", "_law_rounds", "_law_told", "_law_full", "_law_part"]
theorem run (w : World) : HandSHeadRun.RunEq R (PySem.W.view R.prog [25]) hk ob 6000 loose w := by
  intro os
  kernel_rfl
end Clx
/-! ## K36 -/
set_option Elab.async false
set_option linter.all false
set_option maxRecDepth 100000
set_option maxHeartbeats 0
open PySem PySem.W PySem.Calls PyProof.Rows
theorem Clx.cs_all {K : PySem.W.Frag} {Q : Addr × Addr → Prop} (h : ∀ p ∈ Clx.tf, Q (He.cT K p)) : ∀ p ∈ Clx.csT K, Q p := fun p hp => by
  rcases List.mem_cons.mp hp with e | hp
  · rw [e]
    exact h Clx.pL List.mem_cons_self
  · rw [List.mem_singleton.mp hp]
    exact h Clx.pF (List.mem_cons_of_mem _ List.mem_cons_self)
theorem PySem.Challenge.cw_crossloom_k27_slots_of_lines_exchanged_holds : PySem.Challenge.rw_crossloom_k27_slots_of_lines_exchanged.Holds := by
  w_on; o_law
  refine HandSHeadRun.head_any (r := OpenLaw.row PySem.Challenge.rw_crossloom_k27_slots_of_lines_exchanged) (q := view Clx.R.prog [25]) (H := Clx.hk) (ob := Clx.ob) (M := 6000) (loose := Clx.loose) (d := HandSHeadRun.topDef Clx.R.prog 25) (kwd := []) Clx.ob_eq
    (by kernel_rfl) (fun s => by kernel_rfl) Clx.run (by kernel_rfl) (by kernel_rfl) (by kernel_rfl) (by rfl) (by first | assumption | decide +kernel) (by decide +kernel) ⟨rfl, rfl, rfl, rfl, rfl, by decide +kernel⟩ ?hw ?hc
  case hw => w_witness2
  case hc =>
    refine LamX.walk_ofTsE (l := PySem.Challenge.rw_crossloom_k27_slots_of_lines_exchanged) (n := 63) (k := 7) (x := "_law_script") (CX := fun _ => L2.CX0) rfl (by decide) (by kernel_rfl) ⟨rfl, by decide, by decide⟩ ?F (fun _ _ _ _ _ z => z)
    intro w mg fa h Y G hmg0
    obtain ⟨K, KX, c⟩ := Y
    have hmg : mg ("law" : PySem.Str) = some (.ref fa) := by
      have e : (HandSHeadRun.topDef Clx.R.prog 25).name = ("law" : PySem.Str) := by kernel_rfl
      rw [← e]
      exact hmg0
    obtain ⟨fd, hb, hF⟩ := Clx.facts (P := (PySem.Challenge.rw_crossloom_k27_slots_of_lines_exchanged).prog) (w := w) KX G hmg c
    exact ⟨K, KX, fd, Clx.csT K, Clx.spLaw K (He.cT K Clx.pL).2 (He.cT K Clx.pF).2, Clx.cs_all c.empty, Clx.cs_all (Q := fun p => K.lookup p.2 = none) c.out, Clx.cs_all (Q := fun p => PySem.W.CodeHd h p.1 p.2) fun p hp => PySem.W.codeHd_of_K KX (c.hd p hp), hb,
      fun H a ns _ _ hT hS => ⟨a, ns, rfl, hS, hT _ List.mem_cons_self, hT _ (List.mem_cons_of_mem _ List.mem_cons_self), fun _ => rfl⟩, hF⟩
