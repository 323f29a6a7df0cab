import PyProof.Rows.All
import Wide.All
import OpenK.AllK
import Wide.FinOn
import HandS.Codes
import HandS.ForMost
import HandS.IsInst
import HandS.NoneIn
import HandS.ReplaceLit
import HandS.Style
import HandS.Walk
import PyProof.ToksMono
import PySem.Challenge.RW_galleypapers_k34_whole_points_of_words
set_option Elab.async false
set_option linter.all false
set_option maxRecDepth 100000
set_option maxHeartbeats 4000000
/-! GMath: the mathematics, without the program. -/
namespace GM
/-! ### the reading of a pattern's text -/
def figs : List Nat := [48, 49, 50, 51, 52, 53, 54, 55, 56, 57]
abbrev PSt := List Nat × List Int × Bool
def pstep (s : PSt) (c : Nat) : Option PSt :=
  if c ∈ figs then (if s.2.2 = true then some (s.1, s.2.1.set (s.2.1.length - 1) ((c : Int) - 48), false) else none)
  else some (s.1 ++ [c], s.2.1 ++ [0], true)
def pfold : List Nat → PSt → Option PSt
  | [], s => some s
  | c :: r, s => (pstep s c).bind (pfold r)
def pini : PSt := ([], [0], true)
theorem pfold_nil (s : PSt) : pfold [] s = some s := rfl
theorem pfold_cons (c : Nat) (r : List Nat) (s : PSt) : pfold (c :: r) s = (pstep s c).bind (pfold r) := rfl
theorem pfold_app : ∀ (a b : List Nat) (s : PSt), pfold (a ++ b) s = (pfold a s).bind (pfold b)
  | [], b, s => rfl
  | c :: r, b, s => by
    rw [List.cons_append, pfold_cons, pfold_cons]
    cases pstep s c with
    | none => rfl
    | some t => exact pfold_app r b t
theorem pstep_fig {sg : List Nat} {ns : List Int} {f : Bool} {c : Nat} {r : PSt} (hc : c ∈ figs) (h : pstep (sg, ns, f) c = some r) : f = true ∧ r = (sg, ns.set (ns.length - 1) ((c : Int) - 48), false) := by
  unfold pstep at h
  rw [if_pos hc] at h
  cases f with
  | true =>
    rw [if_pos rfl] at h
    exact ⟨rfl, (Option.some.inj h).symm⟩
  | false =>
    rw [if_neg (by simp)] at h
    cases h
theorem pstep_sign {sg : List Nat} {ns : List Int} {f : Bool} {c : Nat} {r : PSt} (hc : ¬ c ∈ figs) (h : pstep (sg, ns, f) c = some r) : r = (sg ++ [c], ns ++ [0], true) := by
  unfold pstep at h
  rw [if_neg hc] at h
  exact (Option.some.inj h).symm
theorem pfold_drop {l : List Nat} {i : Nat} {c : Nat} {s r : PSt} (hi : l[i]? = some c) (h : pfold (l.drop i) s = some r) : ∃ t, pstep s c = some t ∧ pfold (l.drop (i + 1)) t = some r := by
  obtain ⟨hlt, hg⟩ := List.getElem?_eq_some_iff.mp hi
  rw [List.drop_eq_getElem_cons hlt, hg, pfold_cons] at h
  cases e : pstep s c with
  | none =>
    rw [e] at h
    cases h
  | some t =>
    rw [e] at h
    exact ⟨t, rfl, h⟩
/-- the numbers are one more than the signs -/
theorem pfold_len : ∀ (l : List Nat) (s r : PSt), pfold l s = some r → s.2.1.length = s.1.length + 1 → r.2.1.length = r.1.length + 1
  | [], s, r, h, e => by
    cases h
    exact e
  | c :: l, (sg, ns, f), r, h, e => by
    rw [pfold_cons] at h
    cases q : pstep (sg, ns, f) c with
    | none =>
      rw [q] at h
      cases h
    | some t =>
      rw [q] at h
      refine pfold_len l t r h ?_
      by_cases hc : c ∈ figs
      · obtain ⟨_, rfl⟩ := pstep_fig hc q
        show (ns.set _ _).length = sg.length + 1
        rw [List.length_set]
        exact e
      · obtain rfl := pstep_sign hc q
        show (ns ++ [0]).length = (sg ++ [c]).length + 1
        rw [List.length_append, List.length_append]
        have e' : ns.length = sg.length + 1 := e
        rw [e']
        rfl
/-- the numbers are not negative -/
theorem pfold_nonneg : ∀ (l : List Nat) (s r : PSt), pfold l s = some r → (∀ n ∈ s.2.1, (0 : Int) ≤ n) → ∀ n ∈ r.2.1, (0 : Int) ≤ n
  | [], s, r, h, e => by
    cases h
    exact e
  | c :: l, (sg, ns, f), r, h, e => by
    rw [pfold_cons] at h
    cases q : pstep (sg, ns, f) c with
    | none =>
      rw [q] at h
      cases h
    | some t =>
      rw [q] at h
      refine pfold_nonneg l t r h ?_
      by_cases hc : c ∈ figs
      · obtain ⟨_, rfl⟩ := pstep_fig hc q
        intro n hn
        rcases List.mem_or_eq_of_mem_set hn with hn | hn
        · exact e n hn
        · subst hn
          have : 48 ≤ c := by
            unfold figs at hc
            simp at hc
            omega
          omega
      · obtain rfl := pstep_sign hc q
        intro n hn
        rcases List.mem_append.mp hn with hn | hn
        · exact e n hn
        · rw [List.mem_singleton.mp hn]
          exact Int.le_refl 0
/-- a text that reads as the signs sg with the numbers ns -/
def Reads (l : List Nat) (sg : List Nat) (ns : List Int) : Prop := ∃ f, pfold l pini = some (sg, ns, f)
theorem Reads.len {l sg : List Nat} {ns : List Int} (h : Reads l sg ns) : ns.length = sg.length + 1 := by
  obtain ⟨f, h⟩ := h
  exact pfold_len l pini _ h rfl
theorem Reads.nonneg {l sg : List Nat} {ns : List Int} (h : Reads l sg ns) : ∀ n ∈ ns, (0 : Int) ≤ n := by
  obtain ⟨f, h⟩ := h
  exact pfold_nonneg l pini _ h fun n hn => by
    have : n = 0 := List.mem_singleton.mp hn
    omega

/-! ### greatest numbers -/
/-- F holds at each place the greatest of 0 and all that M puts there -/
def Bst (M : Nat → Int → Prop) (F : List Int) : Prop := ∀ (p : Nat) (v : Int), F[p]? = some v → 0 ≤ v ∧ (v = 0 ∨ M p v) ∧ ∀ n, M p n → n ≤ v
theorem Bst.congr {M M' : Nat → Int → Prop} {F : List Int} (h : Bst M F) (e : ∀ p n, M p n ↔ M' p n) : Bst M' F := fun p v hv => by
  obtain ⟨h0, h1, h2⟩ := h p v hv
  exact ⟨h0, h1.imp id (e p v).mp, fun n hn => h2 n ((e p n).mpr hn)⟩
theorem Bst.start (n : Nat) : Bst (fun _ _ => False) (List.replicate n 0) := fun p v hv => by
  rw [List.getElem?_replicate] at hv
  split at hv
  · have e : (0 : Int) = v := Option.some.inj hv
    subst e
    exact ⟨Int.le_refl 0, .inl rfl, fun _ z => z.elim⟩
  · cases hv
theorem Bst.put {M : Nat → Int → Prop} {F : List Int} (h : Bst M F) {q : Nat} {v : Int} (hq : F[q]? = some v) (m : Int) :
    Bst (fun p n => M p n ∨ (p = q ∧ n = m)) (F.set q (if m > v then m else v)) := fun p z hz => by
  obtain ⟨hlt, _⟩ := List.getElem?_eq_some_iff.mp hq
  by_cases e : q = p
  · subst e
    rw [List.getElem?_set_self hlt] at hz
    have ez := (Option.some.inj hz)
    obtain ⟨h0, h1, h2⟩ := h q v hq
    by_cases g : m > v
    · rw [if_pos g] at ez
      subst ez
      refine ⟨by omega, .inr (.inr ⟨rfl, rfl⟩), fun n hn => ?_⟩
      rcases hn with hn | ⟨_, rfl⟩
      · have := h2 n hn
        omega
      · exact Int.le_refl _
    · rw [if_neg g] at ez
      subst ez
      refine ⟨h0, h1.imp id .inl, fun n hn => ?_⟩
      rcases hn with hn | ⟨_, rfl⟩
      · exact h2 n hn
      · omega
  · rw [List.getElem?_set_ne e] at hz
    obtain ⟨h0, h1, h2⟩ := h p z hz
    refine ⟨h0, h1.imp id .inl, fun n hn => ?_⟩
    rcases hn with hn | ⟨e', _⟩
    · exact h2 n hn
    · exact absurd e'.symm e
theorem Bst.uniq {M : Nat → Int → Prop} {F G : List Int} (h : Bst M F) (g : Bst M G) (e : F.length = G.length) : F = G := by
  refine List.ext_getElem? fun p => ?_
  by_cases hp : p < F.length
  · have hp' : p < G.length := e ▸ hp
    rw [List.getElem?_eq_getElem hp, List.getElem?_eq_getElem hp']
    obtain ⟨a0, a1, a2⟩ := h p _ (List.getElem?_eq_getElem hp)
    obtain ⟨b0, b1, b2⟩ := g p _ (List.getElem?_eq_getElem hp')
    congr 1
    rcases a1 with a1 | a1 <;> rcases b1 with b1 | b1
    · rw [a1, b1]
    · have := a2 _ b1
      omega
    · have := b2 _ a1
      omega
    · have := a2 _ b1
      have := b2 _ a1
      omega
  · rw [List.getElem?_eq_none (by omega), List.getElem?_eq_none (by omega)]

/-! ### what the law and the program put at the places -/
abbrev Tab := List (List Nat × List Int)
/-- the rest of d from s on begins with x -/
def OnAt (d x : List Nat) (s : Nat) : Prop := (d.drop s).take x.length = x
/-- one pattern at one start -/
def CK (ns : List Int) (s : Nat) (p : Nat) (n : Int) : Prop := ∃ k, p = s + k ∧ ns[k]? = some n
/-- the law: all patterns at all starts -/
def ML (T : Tab) (d : List Nat) (p : Nat) (n : Int) : Prop := ∃ e ∈ T, ∃ s, s + e.1.length ≤ d.length ∧ OnAt d e.1 s ∧ CK e.2 s p n
/-- d[s:t] -/
def sub (d : List Nat) (s t : Nat) : List Nat := (d.drop s).take (t - s)
/-- the program: all parts of d up to 14 signs -/
def ME (tab : List Nat → Option (List Int)) (d : List Nat) (s t p : Nat) (n : Int) : Prop := ∃ ns, tab (sub d s t) = some ns ∧ CK ns s p n
def MP (tab : List Nat → Option (List Int)) (d : List Nat) (p : Nat) (n : Int) : Prop := ∃ s, s < d.length ∧ ∃ t, s < t ∧ t ≤ min d.length (s + 14) ∧ ME tab d s t p n
/-- tab is the table T -/
def Tis (tab : List Nat → Option (List Int)) (T : Tab) : Prop := ∀ x ns, tab x = some ns ↔ (x, ns) ∈ T
theorem sub_len {d : List Nat} {s t : Nat} (h1 : s ≤ t) (h2 : t ≤ d.length) : (sub d s t).length = t - s := by
  unfold sub
  rw [List.length_take, List.length_drop]
  omega
theorem ml_mp {tab : List Nat → Option (List Int)} {T : Tab} {d : List Nat} (h : Tis tab T) (hl : ∀ e ∈ T, 1 ≤ e.1.length ∧ e.1.length ≤ 14) (p : Nat) (n : Int) : ML T d p n ↔ MP tab d p n := by
  constructor
  · rintro ⟨e, he, s, hs, ho, hc⟩
    obtain ⟨l1, l2⟩ := hl e he
    refine ⟨s, by omega, s + e.1.length, by omega, by omega, e.2, ?_, hc⟩
    have q : sub d s (s + e.1.length) = e.1 := by
      unfold sub
      rw [show s + e.1.length - s = e.1.length by omega]
      exact ho
    rw [q]
    exact (h _ _).mpr he
  · rintro ⟨s, hs, t, h1, h2, ns, ht, hc⟩
    have hm := (h _ _).mp ht
    have hlen : (sub d s t).length = t - s := sub_len (by omega) (by omega)
    refine ⟨(sub d s t, ns), hm, s, ?_, ?_, hc⟩
    · show s + (sub d s t).length ≤ d.length
      omega
    · show (d.drop s).take (sub d s t).length = sub d s t
      rw [hlen]
      rfl

/-! ### the marked places -/
/-- the places 0 .. n - 1 whose number in F, one further on, is odd -/
def oddP (F : List Int) (k : Nat) : Bool := decide (F.getD (k + 1) 0 % 2 = 1)
def odds (F : List Int) (n : Nat) : List Int := ((List.range n).filter (oddP F)).map Int.ofNat
theorem odds_zero (F : List Int) : odds F 0 = [] := rfl
theorem odds_yes {F : List Int} {n : Nat} (h : oddP F n = true) : odds F (n + 1) = odds F n ++ [(n : Int)] := by
  unfold odds
  rw [List.range_succ, List.filter_append, List.filter_cons, if_pos h, List.map_append]
  rfl
theorem odds_no {F : List Int} {n : Nat} (h : oddP F n = false) : odds F (n + 1) = odds F n := by
  unfold odds
  rw [List.range_succ, List.filter_append, List.filter_cons, if_neg (by rw [h]; simp), List.filter_nil, List.append_nil]
theorem odds_len (F : List Int) (n : Nat) : (odds F n).length ≤ n := by
  unfold odds
  rw [List.length_map]
  exact Nat.le_trans (List.length_filter_le _ _) (by rw [List.length_range]; exact Nat.le_refl _)
/-- the places that are left -/
def kept (l r : Int) (n : Nat) (m : List Int) : List Int := m.filter fun a => decide (l ≤ a ∧ a ≤ (n : Int) - r)
/-- running lengths -/
def cum : Int → List (List Nat) → List Int
  | _, [] => []
  | a, p :: r => (a + (p.length : Int)) :: cum (a + (p.length : Int)) r
theorem cum_len : ∀ (a : Int) (l : List (List Nat)), (cum a l).length = l.length
  | _, [] => rfl
  | a, p :: r => by
    show (cum _ r).length + 1 = r.length + 1
    rw [cum_len]
theorem cum_drop {l : List (List Nat)} {i : Nat} {p : List Nat} (h : l[i]? = some p) (a : Int) : cum a (l.drop i) = (a + (p.length : Int)) :: cum (a + (p.length : Int)) (l.drop (i + 1)) := by
  obtain ⟨hlt, hg⟩ := List.getElem?_eq_some_iff.mp h
  rw [List.drop_eq_getElem_cons hlt, hg]
  rfl
/-- an exception's entry: its letters, its points -/
def exc (ps : List (List Nat)) : List Nat × List Int := (ps.flatten, cum 0 ps.dropLast)
/-- what the law finds: exceptions over the marked places -/
def mark (w : List Nat) : List (List (List Nat)) → List Int → List Int
  | [], m => m
  | ps :: r, m => mark w r (if ps.flatten = w then cum 0 ps.dropLast else m)
theorem mark_snoc (w : List Nat) : ∀ (l : List (List (List Nat))) (ps : List (List Nat)) (m : List Int), mark w (l ++ [ps]) m = if ps.flatten = w then cum 0 ps.dropLast else mark w l m
  | [], ps, m => rfl
  | q :: r, ps, m => by
    show mark w (r ++ [ps]) _ = _
    rw [mark_snoc w r ps]
    rfl
theorem mark_not {w : List Nat} : ∀ (l : List (List (List Nat))) (m : List Int), (∀ ps ∈ l, ps.flatten ≠ w) → mark w l m = m
  | [], m, _ => rfl
  | q :: r, m, h => by
    show mark w r _ = m
    rw [if_neg (h q (List.mem_cons_self))]
    exact mark_not r m fun ps hp => h ps (List.mem_cons_of_mem _ hp)
theorem mark_in {w : List Nat} {ps : List (List Nat)} : ∀ (l : List (List (List Nat))) (m : List Int), (l.map List.flatten).Nodup → ps ∈ l → ps.flatten = w → mark w l m = cum 0 ps.dropLast
  | [], m, _, h, _ => nomatch h
  | q :: r, m, nd, h, e => by
    have nd : (q.flatten :: r.map List.flatten).Nodup := nd
    obtain ⟨n1, n2⟩ := List.nodup_cons.mp nd
    show mark w r _ = _
    rcases List.mem_cons.mp h with rfl | h
    · rw [if_pos e]
      refine mark_not r _ fun x hx z => n1 ?_
      rw [e, ← z]
      exact List.mem_map_of_mem hx
    · exact mark_in r _ n2 h e
def dotted (w : List Nat) : List Nat := 46 :: (w ++ [46])
theorem dotted_len (w : List Nat) : (dotted w).length = w.length + 2 := by
  unfold dotted
  rw [List.length_cons, List.length_append]
  rfl
/-- the program's answer for a word -/
def WP (tab wtab : List Nat → Option (List Int)) (l r : Int) (w : List Nat) (W : List Int) : Prop :=
  (∃ m, wtab w = some m ∧ W = kept l r w.length m) ∨
  (wtab w = none ∧ ∃ F, F.length = w.length + 3 ∧ Bst (MP tab (dotted w)) F ∧ W = kept l r w.length (odds F (w.length + 1)))
/-- the law's answer for a word -/
def WL (T : Tab) (X : List (List (List Nat))) (l r : Int) (w : List Nat) (W : List Int) : Prop :=
  ∃ F, F.length = w.length + 3 ∧ Bst (ML T (dotted w)) F ∧ W = kept l r w.length (mark w X (odds F (w.length + 1)))
theorem wp_wl {tab wtab : List Nat → Option (List Int)} {T : Tab} {X : List (List (List Nat))} {l r : Int} {w : List Nat} {W W' : List Int} (hT : Tis tab T) (hX : Tis wtab (X.map exc)) (nd : (X.map List.flatten).Nodup)
    (hl : ∀ e ∈ T, 1 ≤ e.1.length ∧ e.1.length ≤ 14) (h : WP tab wtab l r w W) (h' : WL T X l r w W') : W = W' := by
  obtain ⟨F', l', b', rfl⟩ := h'
  rcases h with ⟨m, hm, rfl⟩ | ⟨hn, F, hF, b, rfl⟩
  · obtain ⟨ps, hp, e⟩ := List.mem_map.mp ((hX _ _).mp hm)
    have e1 : ps.flatten = w := congrArg Prod.fst e
    have e2 : cum 0 ps.dropLast = m := congrArg Prod.snd e
    rw [mark_in X _ nd hp e1, e2]
  · have eF : F = F' := Bst.uniq (b.congr fun p n => (ml_mp hT hl p n).symm) b' (hF.trans l'.symm)
    subst eF
    rw [mark_not X _ fun ps hp z => ?_]
    have q := (hX w (cum 0 ps.dropLast)).mpr (List.mem_map.mpr ⟨ps, hp, by unfold exc; rw [z]⟩)
    rw [hn] at q
    cases q
/-- a table that is filled: one more -/
theorem Tis.nil : Tis (fun _ => none) [] := fun x ns => ⟨fun h => (nomatch h), fun h => (nomatch h)⟩
theorem Tis.put {tab : List Nat → Option (List Int)} {T : Tab} (h : Tis tab T) {sg : List Nat} (ns : List Int) (hn : ∀ e ∈ T, e.1 ≠ sg) : Tis (fun x => if x = sg then some ns else tab x) (T ++ [(sg, ns)]) := fun x ms => by
  show (if x = sg then some ns else tab x) = some ms ↔ _
  by_cases e : x = sg
  · subst e
    rw [if_pos rfl]
    constructor
    · intro q
      cases q
      exact List.mem_append_right _ (List.mem_singleton.mpr rfl)
    · intro q
      rcases List.mem_append.mp q with q | q
      · exact absurd rfl (hn _ q)
      · have := List.mem_singleton.mp q
        cases this
        rfl
  · rw [if_neg e, h x ms]
    constructor
    · exact fun q => List.mem_append_left _ q
    · intro q
      rcases List.mem_append.mp q with q | q
      · exact q
      · have := List.mem_singleton.mp q
        cases this
        exact absurd rfl e
theorem Tis.mem {tab : List Nat → Option (List Int)} {T T' : Tab} (h : Tis tab T) (e : ∀ x, x ∈ T ↔ x ∈ T') : Tis tab T' := fun x ns => (h x ns).trans (e _)
theorem kept_yes {l r : Int} {n : Nat} {m : List Int} {i : Nat} {a : Int} (h : m[i]? = some a) (c : l ≤ a ∧ a ≤ (n : Int) - r) : kept l r n (m.take (i + 1)) = kept l r n (m.take i) ++ [a] := by
  unfold kept
  rw [List.take_add_one, h, List.filter_append]
  congr 1
  show List.filter _ [a] = [a]
  rw [List.filter_cons, if_pos (decide_eq_true c)]
  rfl
theorem kept_no {l r : Int} {n : Nat} {m : List Int} {i : Nat} {a : Int} (h : m[i]? = some a) (c : ¬ (l ≤ a ∧ a ≤ (n : Int) - r)) : kept l r n (m.take (i + 1)) = kept l r n (m.take i) := by
  unfold kept
  rw [List.take_add_one, h, List.filter_append]
  show _ ++ List.filter _ [a] = _
  rw [List.filter_cons, if_neg (by rw [decide_eq_false c]; simp)]
  exact List.append_nil _
theorem kept_len (l r : Int) (n : Nat) (m : List Int) : (kept l r n m).length ≤ m.length := List.length_filter_le _ _
theorem and_one {x : Int} (h : 0 ≤ x) : (x % 2 = 1) ↔ x % 2 = 1 := Iff.rfl
/-- the program's answer, for the tables T and X -/
def WPT (T : Tab) (X : List (List (List Nat))) (l r : Int) (w : List Nat) (W : List Int) : Prop := ∃ tab wtab, Tis tab T ∧ Tis wtab (X.map exc) ∧ WP tab wtab l r w W
/-! ### the program's three loops, turn by turn -/
/-- all starts below i -/
def A1 (tab : List Nat → Option (List Int)) (d : List Nat) (i : Nat) (p : Nat) (n : Int) : Prop := ∃ s, s < i ∧ ∃ t, s < t ∧ t ≤ min d.length (s + 14) ∧ ME tab d s t p n
/-- .. and at s the ends up to s + j -/
def A2 (tab : List Nat → Option (List Int)) (d : List Nat) (s j : Nat) (p : Nat) (n : Int) : Prop := A1 tab d s p n ∨ ∃ t, s < t ∧ t ≤ s + j ∧ ME tab d s t p n
/-- .. and of the numbers ns the first k -/
def A3 (tab : List Nat → Option (List Int)) (d : List Nat) (s j : Nat) (ns : List Int) (k : Nat) (p : Nat) (n : Int) : Prop := A2 tab d s j p n ∨ ∃ k', k' < k ∧ p = s + k' ∧ ns[k']? = some n
section
variable {tab : List Nat → Option (List Int)} {d : List Nat}
theorem a1_zero (p : Nat) (n : Int) : False ↔ A1 tab d 0 p n := ⟨fun h => h.elim, fun ⟨s, h, _⟩ => absurd h (Nat.not_lt_zero s)⟩
theorem a1_end (p : Nat) (n : Int) : A1 tab d d.length p n ↔ MP tab d p n := Iff.rfl
theorem a2_zero (s : Nat) (p : Nat) (n : Int) : A1 tab d s p n ↔ A2 tab d s 0 p n := ⟨.inl, fun h => h.elim id fun ⟨t, h1, h2, _⟩ => absurd h1 (by omega)⟩
theorem a2_end {s j : Nat} (hs : s < d.length) (hj : j = min d.length (s + 14) - s) (p : Nat) (n : Int) : A2 tab d s j p n ↔ A1 tab d (s + 1) p n := by
  constructor
  · rintro (⟨s', h1, h2⟩ | ⟨t, h1, h2, h3⟩)
    · exact ⟨s', by omega, h2⟩
    · exact ⟨s, by omega, t, h1, by omega, h3⟩
  · rintro ⟨s', h1, t, h2, h3, h4⟩
    by_cases e : s' = s
    · subst e
      exact .inr ⟨t, h2, by omega, h4⟩
    · exact .inl ⟨s', by omega, t, h2, h3, h4⟩
theorem a2_none {s j : Nat} (h : tab (sub d s (s + 1 + j)) = none) (p : Nat) (n : Int) : A2 tab d s j p n ↔ A2 tab d s (j + 1) p n := by
  constructor
  · rintro (h1 | ⟨t, h1, h2, h3⟩)
    · exact .inl h1
    · exact .inr ⟨t, h1, by omega, h3⟩
  · rintro (h1 | ⟨t, h1, h2, h3⟩)
    · exact .inl h1
    · by_cases e : t = s + 1 + j
      · subst e
        obtain ⟨ns, h4, _⟩ := h3
        rw [h] at h4
        cases h4
      · exact .inr ⟨t, h1, by omega, h3⟩
theorem a3_zero (s j : Nat) (ns : List Int) (p : Nat) (n : Int) : A2 tab d s j p n ↔ A3 tab d s j ns 0 p n := ⟨.inl, fun h => h.elim id fun ⟨k, h1, _⟩ => absurd h1 (Nat.not_lt_zero k)⟩
theorem a3_succ {s j k : Nat} {ns : List Int} {m : Int} (hk : ns[k]? = some m) (p : Nat) (n : Int) : (A3 tab d s j ns k p n ∨ (p = s + k ∧ n = m)) ↔ A3 tab d s j ns (k + 1) p n := by
  constructor
  · rintro ((h | ⟨k', h1, h2, h3⟩) | ⟨rfl, rfl⟩)
    · exact .inl h
    · exact .inr ⟨k', by omega, h2, h3⟩
    · exact .inr ⟨k, by omega, rfl, hk⟩
  · rintro (h | ⟨k', h1, h2, h3⟩)
    · exact .inl (.inl h)
    · by_cases e : k' = k
      · subst e
        rw [hk] at h3
        exact .inr ⟨h2, (Option.some.inj h3).symm⟩
      · exact .inl (.inr ⟨k', by omega, h2, h3⟩)
theorem a3_end {s j : Nat} {ns : List Int} (h : tab (sub d s (s + 1 + j)) = some ns) (p : Nat) (n : Int) : A3 tab d s j ns ns.length p n ↔ A2 tab d s (j + 1) p n := by
  constructor
  · rintro ((h1 | ⟨t, h1, h2, h3⟩) | ⟨k', h1, h2, h3⟩)
    · exact .inl h1
    · exact .inr ⟨t, h1, by omega, h3⟩
    · exact .inr ⟨s + 1 + j, by omega, by omega, ns, h, k', h2, h3⟩
  · rintro (h1 | ⟨t, h1, h2, h3⟩)
    · exact .inl (.inl h1)
    · by_cases e : t = s + 1 + j
      · subst e
        obtain ⟨ms, h4, k', h5, h6⟩ := h3
        rw [h] at h4
        cases h4
        exact .inr ⟨k', (List.getElem?_eq_some_iff.mp h6).1, h5, h6⟩
      · exact .inl (.inr ⟨t, h1, by omega, h3⟩)
end
/-! ### two lists, place by place -/
structure Zp {α β : Type} (R : α → β → Prop) (l : List α) (m : List β) : Prop where
  len : l.length = m.length
  at_ : ∀ (i : Nat) a b, l[i]? = some a → m[i]? = some b → R a b
theorem Zp.get {α β : Type} {R : α → β → Prop} {l : List α} {m : List β} (z : Zp R l m) {i : Nat} {a : α} (h : l[i]? = some a) : ∃ b, m[i]? = some b ∧ R a b := by
  have hi : i < m.length := by
    rw [← z.len]
    exact (List.getElem?_eq_some_iff.mp h).1
  exact ⟨m[i], List.getElem?_eq_getElem hi, z.at_ i a _ h (List.getElem?_eq_getElem hi)⟩
theorem Zp.nil {α β : Type} {R : α → β → Prop} : Zp R ([] : List α) ([] : List β) := ⟨rfl, fun i a b h => by simp at h⟩
theorem Zp.snoc {α β : Type} {R : α → β → Prop} {l : List α} {m : List β} (z : Zp R l m) {a : α} {b : β} (h : R a b) : Zp R (l ++ [a]) (m ++ [b]) := by
  refine ⟨by rw [List.length_append, List.length_append, z.len]; rfl, fun i x y hx hy => ?_⟩
  by_cases hi : i < l.length
  · rw [List.getElem?_append_left hi] at hx
    rw [List.getElem?_append_left (z.len ▸ hi)] at hy
    exact z.at_ i x y hx hy
  · rw [List.getElem?_append_right (by omega)] at hx
    rw [List.getElem?_append_right (by rw [← z.len]; omega)] at hy
    rw [← z.len] at hy
    cases e : i - l.length with
    | zero =>
      rw [e] at hx hy
      cases hx
      cases hy
      exact h
    | succ k =>
      rw [e] at hx
      cases hx
theorem Zp.rev {α β : Type} {R : α → β → Prop} {l : List α} {m : List β} (z : Zp R l m) : Zp R l.reverse m.reverse := by
  refine ⟨by rw [List.length_reverse, List.length_reverse, z.len], fun i x y hx hy => ?_⟩
  have hi : i < l.length := by
    have := (List.getElem?_eq_some_iff.mp hx).1
    rw [List.length_reverse] at this
    exact this
  rw [List.getElem?_reverse hi] at hx
  rw [List.getElem?_reverse (z.len ▸ hi), ← z.len] at hy
  exact z.at_ _ x y hx hy
theorem Zp.mem {α β : Type} {R : α → β → Prop} {l : List α} {m : List β} (z : Zp R l m) {b : β} (h : b ∈ m) : ∃ a ∈ l, R a b := by
  obtain ⟨i, hi, e⟩ := List.getElem_of_mem h
  have hl : i < l.length := z.len ▸ hi
  exact ⟨l[i], List.getElem_mem hl, z.at_ i _ _ (List.getElem?_eq_getElem hl) (by rw [List.getElem?_eq_getElem hi, e])⟩
theorem mem_take {α : Type} {l : List α} {i : Nat} {x : α} (h : x ∈ l.take i) : ∃ j, j < i ∧ l[j]? = some x := by
  obtain ⟨j, hj, e⟩ := List.getElem_of_mem h
  rw [List.length_take] at hj
  rw [List.getElem_take] at e
  exact ⟨j, by omega, by rw [List.getElem?_eq_getElem (by omega), e]⟩
theorem fresh_take {α β : Type} {f : α → β} {l : List α} (nd : (l.map f).Nodup) {i : Nat} {x : α} (h : l[i]? = some x) : ∀ y ∈ l.take i, f y ≠ f x := fun y hy e => by
  obtain ⟨j, hj, ej⟩ := mem_take hy
  have h1 : (l.map f)[i]? = some (f x) := by rw [List.getElem?_map, h]; rfl
  have h2 : (l.map f)[j]? = some (f x) := by rw [List.getElem?_map, ej]; exact congrArg some e
  obtain ⟨a1, e1⟩ := List.getElem?_eq_some_iff.mp h1
  obtain ⟨a2, e2⟩ := List.getElem?_eq_some_iff.mp h2
  have := (List.getElem_inj nd).mp (e1.trans e2.symm)
  omega
theorem take_snoc {α : Type} {l : List α} {i : Nat} {x : α} (h : l[i]? = some x) : l.take (i + 1) = l.take i ++ [x] := by
  rw [List.take_add_one, h]
  rfl
theorem wpt_wl {T T' : Tab} {X X' : List (List (List Nat))} {l r : Int} {w : List Nat} {W W' : List Int} (hT : ∀ e, e ∈ T ↔ e ∈ T') (hX : ∀ ps, ps ∈ X ↔ ps ∈ X') (nd : (X'.map List.flatten).Nodup)
    (hl : ∀ e ∈ T', 1 ≤ e.1.length ∧ e.1.length ≤ 14) (h : WPT T X l r w W) (h' : WL T' X' l r w W') : W = W' := by
  obtain ⟨tab, wtab, h1, h2, h3⟩ := h
  refine wp_wl (h1.mem hT) (h2.mem fun x => ?_) nd hl h3 h'
  rw [List.mem_map, List.mem_map]
  exact ⟨fun ⟨a, ha, e⟩ => ⟨a, (hX a).mp ha, e⟩, fun ⟨a, ha, e⟩ => ⟨a, (hX a).mpr ha, e⟩⟩
/-! ### the law's three loops, turn by turn -/
/-- all patterns of T; of e the starts below s -/
def B2 (T : Tab) (d : List Nat) (e : List Nat × List Int) (s : Nat) (p : Nat) (n : Int) : Prop := ML T d p n ∨ ∃ s', s' < s ∧ s' + e.1.length ≤ d.length ∧ OnAt d e.1 s' ∧ CK e.2 s' p n
/-- .. and at s the first k numbers -/
def B3 (T : Tab) (d : List Nat) (e : List Nat × List Int) (s k : Nat) (p : Nat) (n : Int) : Prop := B2 T d e s p n ∨ ∃ k', k' < k ∧ p = s + k' ∧ e.2[k']? = some n
section
variable {T : Tab} {d : List Nat} {e : List Nat × List Int}
theorem b1_zero (p : Nat) (n : Int) : False ↔ ML [] d p n := ⟨fun h => h.elim, fun ⟨e, h, _⟩ => by simp at h⟩
theorem b2_zero (p : Nat) (n : Int) : ML T d p n ↔ B2 T d e 0 p n := ⟨.inl, fun h => h.elim id fun ⟨s, h1, _⟩ => absurd h1 (Nat.not_lt_zero s)⟩
theorem b2_end {s : Nat} (hs : ∀ s', s' + e.1.length ≤ d.length → s' < s) (p : Nat) (n : Int) : B2 T d e s p n ↔ ML (T ++ [e]) d p n := by
  constructor
  · rintro (⟨x, hx, h⟩ | ⟨s', _, h⟩)
    · exact ⟨x, List.mem_append_left _ hx, h⟩
    · exact ⟨e, List.mem_append_right _ (List.mem_singleton.mpr rfl), s', h⟩
  · rintro ⟨x, hx, s', h⟩
    rcases List.mem_append.mp hx with hx | hx
    · exact .inl ⟨x, hx, s', h⟩
    · have : x = e := List.mem_singleton.mp hx
      subst this
      exact .inr ⟨s', hs s' h.1, h⟩
theorem b2_no {s : Nat} (h : ¬ OnAt d e.1 s) (p : Nat) (n : Int) : B2 T d e s p n ↔ B2 T d e (s + 1) p n := by
  constructor
  · rintro (h1 | ⟨s', h1, h2⟩)
    · exact .inl h1
    · exact .inr ⟨s', by omega, h2⟩
  · rintro (h1 | ⟨s', h1, h2, h3, h4⟩)
    · exact .inl h1
    · by_cases c : s' = s
      · subst c
        exact absurd h3 h
      · exact .inr ⟨s', by omega, h2, h3, h4⟩
theorem b3_zero (s : Nat) (p : Nat) (n : Int) : B2 T d e s p n ↔ B3 T d e s 0 p n := ⟨.inl, fun h => h.elim id fun ⟨k, h1, _⟩ => absurd h1 (Nat.not_lt_zero k)⟩
theorem b3_succ {s k : Nat} {m : Int} (hk : e.2[k]? = some m) (p : Nat) (n : Int) : (B3 T d e s k p n ∨ (p = s + k ∧ n = m)) ↔ B3 T d e s (k + 1) p n := by
  constructor
  · rintro ((h | ⟨k', h1, h2, h3⟩) | ⟨rfl, rfl⟩)
    · exact .inl h
    · exact .inr ⟨k', by omega, h2, h3⟩
    · exact .inr ⟨k, by omega, rfl, hk⟩
  · rintro (h | ⟨k', h1, h2, h3⟩)
    · exact .inl (.inl h)
    · by_cases c : k' = k
      · subst c
        rw [hk] at h3
        exact .inr ⟨h2, (Option.some.inj h3).symm⟩
      · exact .inl (.inr ⟨k', by omega, h2, h3⟩)
theorem b3_end {s : Nat} (h : OnAt d e.1 s) (hs : s + e.1.length ≤ d.length) (p : Nat) (n : Int) : B3 T d e s e.2.length p n ↔ B2 T d e (s + 1) p n := by
  constructor
  · rintro ((h1 | ⟨s', h1, h2⟩) | ⟨k', h1, h2, h3⟩)
    · exact .inl h1
    · exact .inr ⟨s', by omega, h2⟩
    · exact .inr ⟨s, by omega, hs, h, k', h2, h3⟩
  · rintro (h1 | ⟨s', h1, h2, h3, h4⟩)
    · exact .inl (.inl h1)
    · by_cases c : s' = s
      · subst c
        obtain ⟨k', h5, h6⟩ := h4
        exact .inr ⟨k', (List.getElem?_eq_some_iff.mp h6).1, h5, h6⟩
      · exact .inl (.inr ⟨s', by omega, h2, h3, h4⟩)
end
theorem on_sub {d x : List Nat} {s : Nat} : sub d s (s + x.length) = x ↔ OnAt d x s := by
  unfold sub OnAt
  rw [show s + x.length - s = x.length by omega]
theorem mark_len (w : List Nat) (N : Nat) : ∀ (X : List (List (List Nat))) (m : List Int), (∀ ps ∈ X, ps.length ≤ N) → m.length ≤ N → (mark w X m).length ≤ N
  | [], m, _, h => h
  | ps :: r, m, h, hm => by
    show (mark w r (if ps.flatten = w then cum 0 ps.dropLast else m)).length ≤ N
    refine mark_len w N r _ (fun q hq => h q (List.mem_cons_of_mem _ hq)) ?_
    split
    · rw [cum_len, List.length_dropLast]
      have := h ps List.mem_cons_self
      omega
    · exact hm
/-- a pattern's text and its entry -/
def PatR (l : List Nat) (e : List Nat × List Int) : Prop := Reads l e.1 e.2 ∧ l.length ≤ 1000 ∧ 1 ≤ e.1.length ∧ e.1.length ≤ 14
end GM
/-! GTop: the text by places, small words over the heap. -/
namespace G
open PySem PySem.Spec PyProof.Rows L2 TL GM
def topS (i : Nat) : Stmt := PySem.Challenge.pw_galleypapers_k34_whole_points_of_words.main.body.getD i (.Pass ⟨0, 0, 0, 0⟩)
abbrev sPP : Stmt := topS 4
abbrev sPW : Stmt := topS 5
abbrev sTO : Stmt := topS 6
abbrev sNO : Stmt := topS 7
abbrev sDI : Stmt := inClass (topS 8) 0
abbrev sDW : Stmt := inClass (topS 8) 1
abbrev sDP : Stmt := inClass (topS 8) 2
abbrev sPO : Stmt := topS 9
abbrev sLN : Stmt := topS 11
abbrev sLK : Stmt := topS 12
abbrev sLG : Stmt := topS 13
abbrev sLT : Stmt := topS 14
abbrev sLS : Stmt := topS 15
abbrev sLX : Stmt := topS 16
abbrev sLM : Stmt := topS 17
abbrev sLP : Stmt := topS 18
abbrev sLO : Stmt := topS 19
abbrev sLaw : Stmt := topS 20

/-! ### texts -/
/-- the text of these codes -/
def Tx (l : List Nat) : Str := ⟨l.toArray⟩
theorem tl_Tx (l : List Nat) : tl (Tx l) = l := rfl
theorem Tx_tl (x : Str) : Tx (tl x) = x := mk_tl x
theorem Tx_inj {a b : List Nat} (h : Tx a = Tx b) : a = b := by
  have := congrArg tl h
  exact this
theorem Tx_len (l : List Nat) : (Tx l).length = l.length := by
  rw [len_tl, tl_Tx]
theorem Tx_app (a b : List Nat) : Tx a ++ Tx b = Tx (a ++ b) := ext_tl (by rw [tl_append, tl_Tx, tl_Tx, tl_Tx])
theorem Tx_size (l : List Nat) : (Tx l).cps.size = l.length := by
  show l.toArray.size = l.length
  simp
theorem Tx_get (l : List Nat) (i : Nat) : (Tx l).cps[i]? = l[i]? := by
  show l.toArray[i]? = l[i]?
  simp
theorem Tx_one (c : Nat) : (⟨#[c]⟩ : Str) = Tx [c] := rfl
theorem figs_eq : tl ("0123456789" : Str) = figs := by decide +kernel
theorem empty_eq : ("" : Str) = Tx [] := by decide +kernel
theorem dot_eq : ("." : Str) = Tx [46] := by decide +kernel
theorem dash_eq : ("-" : Str) = Tx [45] := by decide +kernel
/-- int of one figure -/
theorem int_fig {c : Nat} (h : c ∈ figs) : PySem.intText? (Tx [c]) = some ((c : Int) - 48) := by
  unfold figs at h
  simp only [List.mem_cons, List.not_mem_nil, or_false] at h
  rcases h with rfl | rfl | rfl | rfl | rfl | rfl | rfl | rfl | rfl | rfl <;> decide +kernel

theorem letters_eq : tl ("abcdefghijklmnopqrstuvwxyz" : Str) = [97, 98, 99, 100, 101, 102, 103, 104, 105, 106, 107, 108, 109, 110, 111, 112, 113, 114, 115, 116, 117, 118, 119, 120, 121, 122] := by decide +kernel
/-- a comprehension without a test -/
theorem yes {σ : L2.St} {H : Hp} {Q : Bool → Hp → Prop} (h : Q true H) : L2.tYes σ H Q := h
/-! ### lists of texts, of ints -/
abbrev SL (ps : List (List Nat)) : List V := (ps.map Tx).map V.str
theorem SL_len (ps : List (List Nat)) : (SL ps).length = ps.length := by
  rw [List.length_map, List.length_map]
theorem SL_get {ps : List (List Nat)} {i : Nat} {p : List Nat} (h : ps[i]? = some p) : (SL ps)[i]? = some (.str (Tx p)) := by
  rw [List.getElem?_map, List.getElem?_map, h]
  rfl
theorem SL_at {ps : List (List Nat)} {i : Nat} {x : V} (h : (SL ps)[i]? = some x) : ∃ p, ps[i]? = some p ∧ x = .str (Tx p) := by
  rw [List.getElem?_map, List.getElem?_map] at h
  cases e : ps[i]? with
  | none =>
    rw [e] at h
    cases h
  | some p =>
    rw [e] at h
    exact ⟨p, rfl, (Option.some.inj h).symm⟩
theorem SL_app (ps qs : List (List Nat)) : SL (ps ++ qs) = SL ps ++ SL qs := by
  show ((ps ++ qs).map Tx).map V.str = _
  rw [List.map_append, List.map_append]
theorem ints_at {ns : List Int} {i : Nat} {x : V} (h : (ns.map V.int)[i]? = some x) : ∃ n, ns[i]? = some n ∧ x = .int n := by
  rw [List.getElem?_map] at h
  cases e : ns[i]? with
  | none =>
    rw [e] at h
    cases h
  | some n =>
    rw [e] at h
    exact ⟨n, rfl, (Option.some.inj h).symm⟩
theorem ints_get {ns : List Int} {i : Nat} {n : Int} (h : ns[i]? = some n) : (ns.map V.int)[i]? = some (.int n) := by
  rw [List.getElem?_map, h]
  rfl
theorem cut_last (xs : List V) : cutV xs none (some (-1)) = xs.dropLast := by
  unfold cutV
  rw [HT.sIx_none]
  have e : HT.sIx xs.length xs.length (some (-1)) = xs.length - 1 := by
    show (if (-1 : Int) < 0 then (-1 + (xs.length : Int)).toNat else min (-1 : Int).toNat xs.length) = xs.length - 1
    rw [if_pos (by decide)]
    omega
  rw [e, List.drop_zero, List.dropLast_eq_take, Nat.sub_zero]
theorem cut_in (xs : List V) (h : 2 ≤ xs.length) : cutV xs (some 1) (some (-1)) = (xs.drop 1).take (xs.length - 2) := by
  unfold cutV
  have e1 : HT.sIx xs.length 0 (some 1) = min 1 xs.length := HT.sIx_nat xs.length 0 1
  have e : HT.sIx xs.length xs.length (some (-1)) = xs.length - 1 := by
    show (if (-1 : Int) < 0 then (-1 + (xs.length : Int)).toNat else min (-1 : Int).toNat xs.length) = xs.length - 1
    rw [if_pos (by decide)]
    omega
  rw [e, e1, show min 1 xs.length = 1 by omega, show xs.length - 1 - 1 = xs.length - 2 by omega]
theorem cut_text (l : List Nat) {s t : Nat} (h1 : s ≤ t) (h2 : t ≤ l.length) : cutS (Tx l) (some (s : Int)) (some (t : Int)) = Tx (sub l s t) := by
  unfold cutS
  rw [HT.sIx_nat, HT.sIx_nat, Tx_len, show min s l.length = s by omega, show min t l.length = t by omega]
  rfl
theorem repl_ints (n : Nat) : (List.replicate n [V.int 0]).flatten = (List.replicate n (0 : Int)).map V.int := by
  induction n with
  | zero => rfl
  | succ n ih =>
    rw [List.replicate_succ, List.flatten_cons, ih, List.replicate_succ]
    rfl
theorem dot_word (w : List Nat) : Str.ofString "." ++ Tx w ++ Str.ofString "." = Tx (dotted w) := by
  rw [dot_eq, Tx_app, Tx_app]
  rfl
theorem SL_dropLast (ps : List (List Nat)) : (SL ps).dropLast = SL ps.dropLast := by
  show ((ps.map Tx).map V.str).dropLast = _
  rw [← List.map_dropLast, ← List.map_dropLast]
/-- range's turns as natural numbers -/
theorem walk_rng0 {n : Nat} : Walk (Itr 0 n) n (fun _ => True) (fun i H x H' => H' = H ∧ x = .int (i : Nat)) :=
  walk_range.mono (fun _ h => h) fun i H x H' _ _ h => ⟨h.1, by rw [h.2]; show V.int (0 + _) = _; rw [Int.zero_add]⟩
theorem walk_rngE {lo : Int} {m n : Nat} (e : lo = (m : Int)) : Walk (Itr lo n) n (fun _ => True) (fun i H x H' => H' = H ∧ x = .int ((m + i : Nat) : Int)) :=
  walk_range.mono (fun _ h => h) fun i H x H' _ _ h => ⟨h.1, by rw [h.2, e]; show V.int (_ + _) = _; congr 1⟩
theorem all_true (n : Nat) : (List.replicate n true).all id = true := by
  rw [List.all_eq_true]
  intro x hx
  rw [(List.mem_replicate.mp hx).2]
  rfl
theorem repl_snoc {α : Type} (n : Nat) (x : α) : List.replicate n x ++ [x] = List.replicate (n + 1) x := by
  rw [List.replicate_succ']
/-! ### heaps -/
theorem same_upd {H : Hp} {p : Addr} {o : HO} (h : H p = none) : Same H (upd H p o) := fun b x e => by
  rw [upd_ne (ne_of_none e h)]
  exact e
/-- what was not there is written -/
theorem same_put {H0 H : Hp} {p : Addr} {o : HO} (s : Same H0 H) (h : H0 p = none) : Same H0 (upd H p o) := fun b x e => by
  rw [upd_ne (ne_of_none e h)]
  exact s b x e
/-- all but a stays -/
def SameX (a : Addr) (H H' : Hp) : Prop := ∀ b o, H b = some o → b ≠ a → H' b = some o
theorem SameX.refl (a : Addr) (H : Hp) : SameX a H H := fun _ _ h _ => h
theorem SameX.trans {a : Addr} {H H1 H2 : Hp} (x : SameX a H H1) (y : SameX a H1 H2) : SameX a H H2 := fun c o h n => y c o (x c o h n) n
theorem SameX.of {a : Addr} {H H' : Hp} (s : Same H H') : SameX a H H' := fun b o e _ => s b o e
theorem SameX.upd {a : Addr} {H H' : Hp} (s : SameX a H H') (o : HO) : SameX a H (L2.upd H' a o) := fun b x e n => by
  rw [upd_ne n]
  exact s b x e n
theorem SameX.put {a : Addr} {H H' : Hp} (s : SameX a H H') {p : Addr} (h : H p = none) (o : HO) : SameX a H (L2.upd H' p o) := fun b x e n => by
  rw [upd_ne (ne_of_none e h)]
  exact s b x e n
/-- what is not there behind was not there ahead (where a is there behind) -/
theorem SameX.free {a : Addr} {H H' : Hp} (s : SameX a H H') (ha : H' a ≠ none) {p : Addr} (h : H' p = none) : H p = none := by
  cases q : H p with
  | none => rfl
  | some o =>
    have n : p ≠ a := fun e => ha (e ▸ h)
    rw [s p o q n] at h
    cases h

theorem small1001 {n : Nat} (h : n ≤ 100000) : n < sizeLine := Nat.lt_of_le_of_lt h (by decide)
theorem small1002 {n : Nat} (h : n ≤ 100000) : n ≤ sizeLine := Nat.le_of_lt (small1001 h)
theorem ixN_last {n : Nat} (h : 1 ≤ n) : ixN n (-1) = some (n - 1) := by
  unfold ixN
  rw [if_neg (by decide), if_pos (by omega)]
  congr 1
  omega
theorem ixN_nat {n j : Nat} (h : j < n) : ixN n (j : Int) = some j := by
  unfold ixN
  rw [if_pos (by omega), if_pos (by omega)]
  rfl
/-! ### the module's names -/
structure Bi (mg : Str → Option Value) : Prop where
  int : mg "int" = none
  len : mg "len" = none
  range : mg "range" = none
  min : mg "min" = none
  max : mg "max" = none
  enum : mg "enumerate" = none
  all : mg "all" = none
  str : mg "str" = none
  list : mg "list" = none
  tuple : mg "tuple" = none
  bool : mg "bool" = none
  isi : mg "isinstance" = none
  fig : ∃ t, mg "FIGURES" = some (.str "0123456789" t)
  let_ : ∃ t, mg "LETTERS" = some (.str "abcdefghijklmnopqrstuvwxyz" t)
  lon : ∃ t, mg "LONGEST" = some (.int 12 t)
end G
/-! GPP: parse_pattern. -/
namespace G
open PySem PySem.Spec PyProof.Rows L2 TL GM
theorem scPP : FnScope ["pattern", "letters", "numbers", "fresh", "char"] ["pattern"] (defScope sPP) := ⟨rfl, rfl, rfl, by decide +kernel, rfl, by decide +kernel, by decide +kernel⟩
/-- a text that reads is taken apart: a new pair of its signs and a new list of its numbers -/
def spPP : Sp := fun vs H Q _ => ∃ (l sg : List Nat) (ns : List Int), vs = [.str (Tx l)] ∧ l.length ≤ 1000 ∧ Reads l sg ns ∧
  ∀ H' t n, Same H H' → H t = none → H n = none → H' t = some (.tup [.str (Tx sg), .ref n]) → H' n = some (.lst (ns.map V.int)) → Q (.ref t) H'
section
variable {P : Program} {w : World} {K : PySem.W.Frag} {mg : Str → Option Value} {base : Heap}
theorem ok_PP {f : Addr} {fd : FuncData} {k : Nat} (F : Fun K "parse_pattern" "parse_pattern" sPP f fd) (B : Bi mg) : FnOk P w K mg base CX0 (k + 1) f fd ["pattern"] spPP := by
  refine F.ok scPP (fun vs H Q E h => ?_) (fun cdv A outer s H vs Q E hr h => ?_)
  · obtain ⟨l, sg, ns, rfl, _⟩ := h
    rfl
  · obtain ⟨l, sg, ns, rfl, hlen, ⟨fr, hf⟩, q⟩ := h
    obtain ⟨tk, mF⟩ := B.fig
    refine ⟨_, pss_cons (ps_set (i := 1) scPP.nd rfl (.inl rfl) pe_str)
      (pss_cons (ps_set (i := 2) scPP.nd rfl (.inl rfl) (pe_lst (pa_cons pe_int pa_nil)))
      (pss_cons (ps_set (i := 3) scPP.nd rfl (.inl rfl) pe_bl)
      (pss_cons (ps_for PassesOwn.never rfl (pi_str (pv 0)) (pg_name (i := 4) scPP.nd rfl (.inl rfl))
        (pss_one (ps_if (pt_cmpR op_in_sign (pv 4) (pe_glob (v := .str "0123456789") (by rfl) mF ⟨_, rfl⟩) (by rfl))
          (pss_cons (ps_if (pt_not (pt_val (pv 3))) (pss_one (ps_ret pe_non)) pss_nil)
          (pss_cons (ps_asg (pe_callTy call_int_str (by rfl) B.int (by decide +kernel) (pa_cons (pv 4) pa_nil)) (pg_sub (pv 2) (pe_un un_neg pe_int) set_list))
          (pss_one (ps_set (i := 3) scPP.nd rfl (.inl rfl) pe_bl))))
          (pss_cons (ps_set (i := 1) scPP.nd rfl (.inl rfl) (pe_op op_add_str (pv 1) (pv 4)))
          (pss_cons (ps_expr (pe_bm PySem.F.plainAttrs_list PySem.F.slot_list_append PySem.F.type_list_append mt_append (pv 2) (pa_cons pe_int pa_nil)))
          (pss_one (ps_set (i := 3) scPP.nd rfl (.inl rfl) pe_bl)))))))
      (pss_one (ps_ret (pe_tup (pa_cons (pv 1) (pa_cons (pv 2) pa_nil)))))))), ?_⟩
    refine ⟨(by show 1 ≤ sizeLine; decide), fun n nn => ?_⟩
    refine ⟨_, rfl, _, rfl, for_it walk_str (fun i σ H' => ∃ (sg' : List Nat) (ns' : List Int) (f' : Bool) (c : Option V), σ = [some (.str (Tx l)), some (.str (Tx sg')), some (.ref n), some (.bl f'), c] ∧ Same H H' ∧
        H' n = some (.lst (ns'.map V.int)) ∧ pfold (l.drop i) (sg', ns', f') = some (sg, ns, fr) ∧ sg'.length ≤ i ∧ ns'.length ≤ i + 1 ∧ 1 ≤ ns'.length)
      ⟨[], [0], true, none, by rw [← empty_eq]; rfl, same_upd nn, upd_same, hf, Nat.le_refl _, Nat.le_refl _, Nat.le_refl _⟩ (fun _ _ _ _ _ => trivial) ?_ ?_⟩
    · rintro i x σ H1 H2 hi ⟨sg', ns', f', c0, rfl, sm, en, hp, l1, l2, l3⟩ ⟨rfl, c, hc, rfl⟩
      rw [Tx_size] at hi
      rw [Tx_get] at hc
      obtain ⟨st, e1, e2⟩ := pfold_drop hc hp
      refine ⟨_, rfl, c, _, rfl, rfl, _, rfl, ite2 (fun hd => ?_) (fun hd => ?_)⟩
      · have hd : c ∈ figs := by
          have := of_decide_eq_true hd
          rw [← figs_eq]
          exact this
        obtain ⟨rfl, rfl⟩ := pstep_fig hd e1
        refine ⟨_, rfl, _, rfl, iteF ?_⟩
        refine ⟨_, rfl, _, _, rfl, int_fig hd, (by show 1 ≤ 640; decide), ?_⟩
        refine ⟨_, rfl, 1, rfl, n, _, _, ns'.length - 1, rfl, rfl, en, ?_, ?_⟩
        · rw [List.length_map]
          exact ixN_last l3
        · refine ⟨sg', ns'.set (ns'.length - 1) ((c : Int) - 48), false, _, rfl, same_put sm nn, ?_, e2, by omega, ?_, ?_⟩
          · rw [upd_same, List.map_set]
          · rw [List.length_set]
            omega
          · rw [List.length_set]
            exact l3
      · have hd : ¬ c ∈ figs := fun z => hd (decide_eq_true (by rw [← figs_eq] at z; exact z))
        obtain rfl := pstep_sign hd e1
        refine ⟨_, rfl, _, rfl, _, _, rfl, rfl, ?_, ?_⟩
        · rw [Tx_one, Tx_len, Tx_len]
          exact Nat.le_of_lt (small1000 (by show sg'.length + 1 ≤ 1000; omega))
        · refine ⟨_, rfl, .inl ⟨rfl, _, SqL.of en⟩, n, _, _, rfl, rfl, en, ?_, ?_⟩
          · rw [List.length_map]
            exact small1001 (by omega)
          · refine ⟨sg' ++ [c], ns' ++ [0], true, some (.str ⟨#[c]⟩), ?_, same_put sm nn, ?_, e2, ?_, ?_, ?_⟩
            · rw [Tx_one, Tx_app]
              rfl
            · rw [upd_same, List.map_append]
              rfl
            · rw [List.length_append]
              exact Nat.succ_le_succ l1
            · rw [List.length_append]
              exact Nat.succ_le_succ l2
            · rw [List.length_append]
              omega
    · rintro σ H1 ⟨sg', ns', f', c0, rfl, sm, en, hp, l1, l2, l3⟩
      rw [Tx_size] at hp
      rw [List.drop_of_length_le (Nat.le_refl _)] at hp
      cases hp
      refine ⟨_, rfl, _, rfl, (by show 2 ≤ sizeLine; decide), fun t nt => ?_⟩
      refine q _ t n (sm.trans (same_upd nt)) (sm.free nt) nn upd_same ?_
      rw [upd_ne (ne_of_none en nt)]
      exact en
end
end G
/-! GPW: parse_word. -/
namespace G
open PySem PySem.Spec PyProof.Rows L2 TL GM
abbrev nPW : List Str := ["word", "parts", "part", "points", "at", "char"]
theorem scPW : FnScope nPW ["word"] (defScope sPW) := ⟨rfl, rfl, rfl, by decide +kernel, rfl, by decide +kernel, by decide +kernel⟩
/-- letters a, b, c alone -/
def Lc (p : List Nat) : Prop := ∀ c ∈ p, 97 ≤ c ∧ c ≤ 99
/-- a divided word: its text, its parts -/
def Div (l : List Nat) (ps : List (List Nat)) : Prop := l = joinL [45] ps ∧ ps ≠ [] ∧ (∀ p ∈ ps, p ≠ [] ∧ Lc p) ∧ l.length ≤ 1000 ∧ ps.length ≤ 1000 ∧ ps.flatten.length ≤ 1000
def spPW : Sp := fun vs H Q _ => ∃ (l : List Nat) (ps : List (List Nat)), vs = [.str (Tx l)] ∧ Div l ps ∧
  ∀ H' t n, Same H H' → H t = none → H n = none → H' t = some (.tup [.str (Tx ps.flatten), .ref n]) → H' n = some (.lst ((cum 0 ps.dropLast).map V.int)) → Q (.ref t) H'
theorem Div.split {l : List Nat} {ps : List (List Nat)} (h : Div l ps) : Txt.split (Tx l) (Str.ofString "-") = ps.map Tx := by
  obtain ⟨hl, hne, hp, _⟩ := h
  have e : Tx l = Txt.join (Str.ofString "-") (ps.map Tx) := ext_tl (by
    rw [join_eq, tl_join, dash_eq, tl_Tx, tl_Tx, List.map_map, hl]
    congr 1
    have : (tl ∘ Tx) = (id : List Nat → List Nat) := funext fun x => tl_Tx x
    rw [this, List.map_id])
  rw [e]
  refine split_join (s := 45) (S := []) (by rw [dash_eq, tl_Tx]) (by decide +kernel) (fun z => hne (List.map_eq_nil_iff.mp z)) fun x hx => ?_
  obtain ⟨p, hm, rfl⟩ := List.mem_map.mp hx
  rw [tl_Tx]
  intro z
  have := (hp p hm).2 45 z
  omega
theorem join_empty (ps : List (List Nat)) : Txt.join (Str.ofString "") (ps.map Tx) = Tx ps.flatten := ext_tl (by
  rw [join_eq, tl_join, empty_eq, tl_Tx, tl_Tx, List.map_map]
  have : (tl ∘ Tx) = (id : List Nat → List Nat) := funext fun x => tl_Tx x
  rw [this, List.map_id]
  have go : ∀ l : List (List Nat), joinL [] l = l.flatten := by
    intro l
    induction l with
    | nil => rfl
    | cons p r ih =>
      cases r with
      | nil =>
        show p = p ++ []
        rw [List.append_nil]
      | cons q r =>
        show p ++ ([] ++ joinL [] (q :: r)) = p ++ (q :: r).flatten
        rw [ih, List.nil_append]
  exact go ps)
theorem lens_sum (ps : List (List Nat)) : ((ps.map Tx).map (·.length)).sum = ps.flatten.length := by
  rw [List.map_map, List.length_flatten]
  exact congrArg List.sum (List.map_congr_left fun p _ => Tx_len p)
section
variable {P : Program} {w : World} {K : PySem.W.Frag} {mg : Str → Option Value} {base : Heap}
theorem ok_PW {f : Addr} {fd : FuncData} {k : Nat} (F : Fun K "parse_word" "parse_word" sPW f fd) (B : Bi mg) : FnOk P w K mg base CX0 (k + 1) f fd ["word"] spPW := by
  refine F.ok scPW (fun vs H Q E h => ?_) (fun cdv A outer s H vs Q E hr h => ?_)
  · obtain ⟨l, ps, rfl, _⟩ := h
    rfl
  · obtain ⟨l, ps, rfl, ⟨hl, hne, hp, hlen, hpl, hfl⟩, q⟩ := h
    obtain ⟨tk, mL⟩ := B.let_
    refine ⟨_, pss_cons (ps_set (i := 1) scPW.nd rfl (.inl rfl) (pe_split (pv 0) pe_str))
      (pss_cons (ps_if (pt_not (pt_val (pe_callB (cr_all rfl) (by rfl) B.all (by decide +kernel) (pa_cons
          (pe_lc (own := [("part", 2)]) (g := gName 2) (tt := tYes) rfl scPW.nd (pi_list (pv 1)) (blkOk_by (own := [("part", 2)]) (N := nPW) (sc := defScope sPW) (by decide +kernel))
            (fun _ _ _ _ _ => pg_name (i := 2) scPW.nd rfl (Or.inl rfl)) (fun _ _ _ _ _ => pts_nil)
            (fun _ _ _ _ _ => pe_and (pe_cmpR op_ne (pv 2) pe_str (nomark _)) (pe_one (pe_callB (id := "all") (show CallR _ _ (rAll K) from cr_all rfl) (by rfl) B.all (by decide +kernel) (pa_cons
              (pe_lc (own := [("char", 5)]) (g := gName 5) (tt := tYes) rfl scPW.nd (pi_str (pv 2)) (blkOk_by (own := [("char", 5)]) (N := nPW) (by rfl))
                (fun _ _ _ _ _ => pg_name (i := 5) scPW.nd rfl (Or.inl rfl)) (fun _ _ _ _ _ => pts_nil)
                (fun _ _ _ _ _ => pe_cmpR op_in_sign (pv 5) (pe_glob (v := .str "abcdefghijklmnopqrstuvwxyz") (by rfl) mL ⟨_, rfl⟩) (by rfl))) pa_nil))))) pa_nil)))) (pss_one (ps_ret pe_non)) pss_nil)
      (pss_cons (ps_set (i := 3) scPW.nd rfl (.inl rfl) (pe_lst pa_nil))
      (pss_cons (ps_set (i := 4) scPW.nd rfl (.inl rfl) pe_int)
      (pss_cons (ps_for PassesOwn.never rfl (pi_list (pe_slice sl_list (pv 1) po_none (po_some (pe_un un_neg pe_int)))) (pg_name (i := 2) scPW.nd rfl (.inl rfl))
        (pss_cons (ps_set (i := 4) scPW.nd rfl (.inl rfl) (pe_op op_add (pv 4) (pe_callB call_len_str (by rfl) B.len PySem.boot_len (pa_cons (pv 2) pa_nil))))
        (pss_one (ps_expr (pe_bm PySem.F.plainAttrs_list PySem.F.slot_list_append PySem.F.type_list_append mt_append (pv 3) (pa_cons (pv 4) pa_nil))))))
      (pss_one (ps_ret (pe_tup (pa_cons (pe_join pe_str (pv 1)) (pa_cons (pv 3) pa_nil))))))))), ?_⟩
    refine ⟨_, rfl, ⟨_, rfl⟩, _, _, rfl, rfl, (by decide +kernel), (by rw [Tx_len]; exact small1002 (by omega)), fun a na => ?_⟩
    rw [Div.split ⟨hl, hne, hp, hlen, hpl, hfl⟩]
    have s1 : Same H (upd H a (.lst (SL ps))) := same_upd na
    have e1 : (upd H a (.lst (SL ps))) a = some (.lst (SL ps)) := upd_same
    revert s1 e1
    generalize (upd H a (.lst (SL ps))) = H1
    intro s1 e1
    refine ⟨_, rfl, a, rfl, ⟨_, SqL.of e1⟩, fun D nD => lc_list (xs := SL ps) (fun i H' => Same H1 H' ∧ H' D = some (.lst ((List.replicate i true).map V.bl)))
      ⟨same_upd nD, upd_same⟩ (fun i H' _ p => p.1.seq (SqL.of e1)) ?_ ?_⟩
    · rintro i x H2 hx ⟨s2, e2⟩
      obtain ⟨p, hp', rfl⟩ := SL_at hx
      obtain ⟨pn, pl⟩ := hp p (List.mem_of_getElem? hp')
      have hi : i < ps.length := (List.getElem?_eq_some_iff.mp hp').1
      refine ⟨rfl, yes (iteT ?_)⟩
      refine ⟨_, rfl, rfl, _, rfl, ?_⟩
      have nz : (!decide (V.str (Tx p) = V.str (Str.ofString ""))) = true := by
        rw [decide_eq_false]
        · rfl
        · intro z
          rw [empty_eq] at z
          exact pn (Tx_inj (V.str.inj z))
      rw [nz]
      refine iteT ?_
      refine ⟨_, rfl, _, rfl, fun D2 nD2 => lc_it walk_str (fun j H' => Same H2 H' ∧ H' D2 = some (.lst ((List.replicate j true).map V.bl))) ⟨same_upd nD2, upd_same⟩ (fun _ _ _ _ => trivial) ?_ ?_⟩
      · rintro j y H3 H4 hj ⟨s3, e3⟩ ⟨rfl, c, hc, rfl⟩
        rw [Tx_size] at hj
        rw [Tx_get] at hc
        refine ⟨rfl, yes (iteT ?_)⟩
        refine ⟨_, rfl, c, _, rfl, rfl, _, e3, ?_, ?_⟩
        · rw [List.length_map, List.length_replicate]
          refine small1001 ?_
          have : p.length ≤ ps.flatten.length := (List.sublist_flatten_of_mem (List.mem_of_getElem? hp')).length_le
          omega
        · refine ⟨same_put s3 nD2, ?_⟩
          have hm : decide (c ∈ (Str.ofString "abcdefghijklmnopqrstuvwxyz").cps.toList) = true := decide_eq_true (by
            show c ∈ tl (Str.ofString "abcdefghijklmnopqrstuvwxyz")
            rw [letters_eq]
            have := pl c (List.mem_of_getElem? hc)
            simp
            omega)
          rw [upd_same, hm, ← repl_snoc, List.map_append]
          rfl
      · rintro H3 ⟨s3, e3⟩
        refine ⟨D2, _, rfl, SqL.of e3, ?_⟩
        rw [all_true]
        have hD : H3 D = some (.lst ((List.replicate i true).map V.bl)) := s3 _ _ e2
        refine ⟨_, hD, ?_, (s2.trans s3 |> fun z => same_put z nD), ?_⟩
        · rw [List.length_map, List.length_replicate]
          exact small1001 (by omega)
        · rw [upd_same, ← repl_snoc, List.map_append]
          rfl
    · rintro H2 ⟨s2, e2⟩
      rw [SL_len] at e2
      refine ⟨D, _, rfl, SqL.of e2, ?_⟩
      rw [all_true]
      refine ⟨_, rfl, iteF ?_⟩
      refine ⟨Nat.zero_le _, fun n nn => ?_⟩
      have a2 := s2 _ _ e1
      have nna : a ≠ n := ne_of_none a2 nn
      refine ⟨_, rfl, 1, rfl, -1, rfl, a, _, rfl, SqL.of (by rw [upd_ne nna]; exact a2), fun c nc => ?_⟩
      rw [cut_last, SL_dropLast]
      have ncn : c ≠ n := fun z => by
        rw [z, upd_same] at nc
        cases nc
      rw [upd_ne ncn] at nc
      refine ⟨c, rfl, ⟨_, SqL.of upd_same⟩, for_list (K := K) (a := c) (xs := SL ps.dropLast) (fun i σ H' => ∃ (z : Int) (acc : List Int) (c2 : Option V), σ = [some (.str (Tx l)), some (.ref a), c2, some (.ref n), some (.int z), none] ∧
          Same H2 H' ∧ H' c = some (.lst (SL ps.dropLast)) ∧ H' n = some (.lst (acc.map V.int)) ∧ acc ++ cum z (ps.dropLast.drop i) = cum 0 ps.dropLast ∧ acc.length = i)
        ⟨0, [], none, rfl, same_put (same_upd nn) nc, upd_same, (by rw [upd_ne ncn.symm, upd_same]; rfl), by rw [List.drop_zero]; rfl, rfl⟩ (fun i σ H' _ ⟨_, _, _, _, _, ec, _⟩ => SqL.of ec) ?_ ?_⟩
      · rintro i x σ H3 hx ⟨z, acc, c2, rfl, s3, ec, en, hc, ha⟩
        obtain ⟨p, hp', rfl⟩ := SL_at hx
        have hi : i < ps.dropLast.length := (List.getElem?_eq_some_iff.mp hp').1
        have hi2 : i < 1000 := by
          rw [List.length_dropLast] at hi
          omega
        refine ⟨_, rfl, _, rfl, _, rfl, ?_, _, _, rfl, rfl, ?_⟩
        · rw [Tx_len]
          refine small1002 ?_
          have h1 : p ∈ ps := List.dropLast_subset ps (List.mem_of_getElem? hp')
          have : p.length ≤ ps.flatten.length := (List.sublist_flatten_of_mem h1).length_le
          omega
        · rw [Tx_len]
          refine ⟨_, rfl, .inl ⟨rfl, _, SqL.of en⟩, _, rfl, n, _, _, rfl, rfl, en, ?_, ?_⟩
          · rw [List.length_map]
            exact small1001 (by omega)
          · refine ⟨z + (p.length : Int), acc ++ [z + (p.length : Int)], some (.str (Tx p)), rfl, same_put s3 nn, ?_, ?_, ?_, ?_⟩
            · rw [upd_ne ncn]
              exact ec
            · rw [upd_same, List.map_append]
              rfl
            · rw [cum_drop hp'] at hc
              rw [List.append_assoc]
              exact hc
            · rw [List.length_append, ha]
              rfl
      · rintro σ H3 ⟨z, acc, c2, rfl, s3, ec, en, hc, ha⟩
        rw [SL_len] at hc
        rw [List.drop_of_length_le (Nat.le_refl _)] at hc
        have hc : acc ++ [] = cum 0 ps.dropLast := hc
        rw [List.append_nil] at hc
        subst hc
        refine ⟨⟨_, rfl⟩, _, rfl, _, a, ps.map Tx, rfl, rfl, .inl (SqL.of (s3 _ _ a2)), ?_, ?_⟩
        · rw [lens_sum, empty_eq, Tx_len]
          show _ + _ * 0 ≤ _
          omega
        · rw [join_empty]
          refine ⟨_, rfl, (by show 2 ≤ sizeLine; decide), fun t nt => ?_⟩
          have sH : Same H H3 := s1.trans (s2.trans s3)
          refine q _ t n (sH.trans (same_upd nt)) (sH.free nt) ((s1.trans s2).free nn) upd_same ?_
          rw [upd_ne (ne_of_none en nt)]
          exact en
end
end G
/-! GTO: table_of. -/
namespace G
open PySem PySem.Spec PyProof.Rows L2 TL GM
/-- a dict of at most n texts, each with a list of ints of its own -/
def TabAt (n : Nat) (H : Hp) (d : Addr) (tab : List Nat → Option (List Int)) : Prop := ∃ kvs : List (Key × V), H d = some (.dK kvs) ∧ kvs.length ≤ n ∧
  ∀ x : List Nat, (valV kvs (Sum.inr (Tx x) : Key) = none ∧ tab x = none) ∨ ∃ l ns, valV kvs (Sum.inr (Tx x) : Key) = some (.ref l) ∧ H l = some (.lst (ns.map V.int)) ∧ tab x = some ns
theorem TabAt.same {n : Nat} {H H' : Hp} {d : Addr} {tab : List Nat → Option (List Int)} (h : TabAt n H d tab) (s : Same H H') : TabAt n H' d tab := by
  obtain ⟨kvs, e, hl, h⟩ := h
  refine ⟨kvs, s _ _ e, hl, fun x => (h x).imp id ?_⟩
  rintro ⟨l, ns, h1, h2, h3⟩
  exact ⟨l, ns, h1, s _ _ h2, h3⟩
theorem TabAt.new {H : Hp} {d : Addr} : TabAt 0 (upd H d (.dK [])) d (fun _ => none) := ⟨[], upd_same, Nat.le_refl _, fun _ => .inl ⟨rfl, rfl⟩⟩
theorem TabAt.mono {n m : Nat} {H : Hp} {d : Addr} {tab : List Nat → Option (List Int)} (h : TabAt n H d tab) (l : n ≤ m) : TabAt m H d tab := by
  obtain ⟨kvs, e, hl, h⟩ := h
  exact ⟨kvs, e, Nat.le_trans hl l, h⟩
/-- table[letters] = numbers -/
theorem TabAt.put {n : Nat} {H : Hp} {d : Addr} {tab : List Nat → Option (List Int)} (h : TabAt n H d tab) {sg : List Nat} {l : Addr} {ns : List Int} (el : H l = some (.lst (ns.map V.int))) :
    ∃ kvs : List (Key × V), H d = some (.dK kvs) ∧ kvs.length ≤ n ∧ TabAt (n + 1) (upd H d (.dK (putK kvs (Sum.inr (Tx sg) : Key) (.ref l)))) d (fun x => if x = sg then some ns else tab x) := by
  obtain ⟨kvs, e, hl, h⟩ := h
  refine ⟨kvs, e, hl, _, upd_same, Nat.le_trans (length_putK _ _ _) (Nat.succ_le_succ hl), fun x => ?_⟩
  have key : ∀ l' ns', H l' = some (.lst (List.map V.int ns')) → (upd H d (.dK (putK kvs (Sum.inr (Tx sg) : Key) (.ref l)))) l' = some (.lst (ns'.map V.int)) := fun l' ns' q => by
    rw [upd_ne (ne_of q e (by intro z; cases z))]
    exact q
  rw [valV_put]
  by_cases c : x = sg
  · subst c
    rw [if_pos rfl]
    exact .inr ⟨l, ns, rfl, key _ _ el, if_pos rfl⟩
  · rw [if_neg fun z => c (Tx_inj (Sum.inr.inj z))]
    show _ ∨ ∃ l ns', _ ∧ _ ∧ (if x = sg then some ns else tab x) = some ns'
    refine (h x).imp (fun z => ⟨z.1, ?_⟩) ?_
    · show (if x = sg then some ns else tab x) = none
      rw [if_neg c]
      exact z.2
    · rintro ⟨l', ns', h1, h2, h3⟩
      exact ⟨l', ns', h1, key _ _ h2, by rw [if_neg c]; exact h3⟩
theorem TabAt.sameX {n : Nat} {H H' : Hp} {d p C dx : Addr} {fs : List (Str × V)} {tab : List Nat → Option (List Int)} (h : TabAt n H d tab) (s : SameX p H H') (hp : H p = some (.ins C dx fs)) : TabAt n H' d tab := by
  obtain ⟨kvs, e, hl, h⟩ := h
  refine ⟨kvs, s _ _ e (ne_of e hp (by intro z; cases z)), hl, fun x => (h x).imp id ?_⟩
  rintro ⟨l, ns, h1, h2, h3⟩
  exact ⟨l, ns, h1, s _ _ h2 (ne_of h2 hp (by intro z; cases z)), h3⟩
/-- another dict is written -/
theorem TabAt.other {n : Nat} {H : Hp} {d e : Addr} {kvs kvs' : List (Key × V)} {tab : List Nat → Option (List Int)} (h : TabAt n H d tab) (he : H e = some (.dK kvs)) (ne : d ≠ e) : TabAt n (upd H e (.dK kvs')) d tab := by
  obtain ⟨ks, q, hl, h⟩ := h
  refine ⟨ks, by rw [upd_ne ne]; exact q, hl, fun x => (h x).imp id ?_⟩
  rintro ⟨l, ns, h1, h2, h3⟩
  exact ⟨l, ns, h1, by rw [upd_ne (ne_of h2 he (by intro z; cases z))]; exact h2, h3⟩
abbrev nTO : List Str := ["patterns", "table", "pattern", "letters", "numbers"]
theorem scTO : FnScope nTO ["patterns"] (defScope sTO) := ⟨rfl, rfl, rfl, by decide +kernel, rfl, by decide +kernel, by decide +kernel⟩
def spTO (K : PySem.W.Frag) : Sp := fun vs H Q _ => ∃ (a : Addr) (ls : List (List Nat)) (T : Tab), vs = [.ref a] ∧ SqL K H a (SL ls) ∧ Zp PatR ls T ∧ (T.map Prod.fst).Nodup ∧ ls.length ≤ 1000 ∧
  ∀ H' d tab, Same H H' → H d = none → TabAt 1000 H' d tab → Tis tab T → Q (.ref d) H'
section
variable {P : Program} {w : World} {K : PySem.W.Frag} {mg : Str → Option Value} {base : Heap}
theorem ok_TO {f fP : Addr} {fd fdP : FuncData} (F : Fun K "table_of" "table_of" sTO f fd) (B : Bi mg) (FP : Fun K "parse_pattern" "parse_pattern" sPP fP fdP) (bP : Binds K fdP ["pattern"] []) (gP : mg "parse_pattern" = some (.ref fP)) :
    FnOk P w K mg base CX0 2 f fd ["patterns"] (spTO K) := by
  have GP : FnOk P w K mg base CX0 1 fP fdP ["pattern"] spPP := ok_PP FP B
  refine F.ok scTO (fun vs H Q E h => ?_) (fun cdv A outer s H vs Q E hr h => ?_)
  · obtain ⟨a, ls, T, rfl, _⟩ := h
    rfl
  · obtain ⟨a, ls, T, rfl, hS, hz, nd, hlen, q⟩ := h
    have hu := hu_of hr
    refine ⟨_, pss_cons (ps_set (i := 1) scTO.nd rfl (.inl rfl) pe_dnewK)
      (pss_cons (ps_for PassesOwn.never rfl (pi_list (pv 0)) (pg_name (i := 2) scTO.nd rfl (.inl rfl))
        (pss_cons (ps_asg (pe_call GP hr (by rfl) gP FP.kp bP .nil pass0 (pa_cons (pv 2) pa_nil)) (pg_tup rfl (pgs_cons (pg_name (i := 3) scTO.nd rfl (.inl rfl)) (pgs_cons (pg_name (i := 4) scTO.nd rfl (.inl rfl)) pgs_nil))))
        (pss_one (ps_dput hu (pv 1) (pv 3) (pv 4) rfl))))
      (pss_one (ps_ret (pv 1)))), ?_⟩
    intro d ed
    refine ⟨_, rfl, a, rfl, ⟨_, (same_upd ed).seq hS⟩, for_list (K := K) (a := a) (xs := SL ls) (fun i σ H' => ∃ (tab : List Nat → Option (List Int)) (c2 c3 c4 : Option V), σ = [some (.ref a), some (.ref d), c2, c3, c4] ∧ Same H H' ∧ TabAt i H' d tab ∧ Tis tab (T.take i))
      ⟨_, none, none, none, rfl, same_upd ed, TabAt.new, Tis.nil⟩ (fun i σ H' _ ⟨_, _, _, _, _, sm, _⟩ => sm.seq hS) ?_ ?_⟩
    · rintro i x σ H1 hx ⟨tab, c2, c3, c4, rfl, sm, ht, hT⟩
      obtain ⟨l, hl, rfl⟩ := SL_at hx
      obtain ⟨e, he, hR, hl1, _⟩ := hz.get hl
      refine ⟨_, rfl, l, e.1, e.2, rfl, hl1, hR, fun H2 t n s2 nt nn et en => ?_⟩
      refine ⟨t, _, rfl, SqT.of et, rfl, _, _, rfl, _, _, rfl, rfl, ?_⟩
      have ht2 := ht.same s2
      obtain ⟨kvs, ek, hk, ht3⟩ := ht2.put (sg := e.1) en
      have hi : i < ls.length := (List.getElem?_eq_some_iff.mp hl).1
      refine ⟨_, rfl, _, rfl, _, rfl, d, _, rfl, DPut.k (k := Sum.inr (Tx e.1)) ek (small1001 (by omega)), ?_⟩
      refine ⟨_, some (.str (Tx l)), some (.str (Tx e.1)), some (.ref n), rfl, same_put (sm.trans s2) ed, ht3, ?_⟩
      rw [take_snoc he]
      exact hT.put e.2 (fresh_take nd he)
    · rintro σ H1 ⟨tab, c2, c3, c4, rfl, sm, ht, hT⟩
      rw [SL_len] at ht hT
      rw [List.take_of_length_le (by rw [← hz.len]; exact Nat.le_refl _)] at hT
      exact ⟨_, rfl, q H1 d tab sm ed (ht.mono hlen) hT⟩
end
end G
/-! GNO: numbers_of. -/
namespace G
open PySem PySem.Spec PyProof.Rows L2 TL GM
abbrev nNO : List Str := ["table", "word", "dotted", "found", "start", "end", "numbers", "at", "number"]
theorem scNO : FnScope nNO ["table", "word"] (defScope sNO) := ⟨rfl, rfl, rfl, by decide +kernel, rfl, by decide +kernel, by decide +kernel⟩
def spNO : Sp := fun vs H Q _ => ∃ (d : Addr) (tab : List Nat → Option (List Int)) (w : List Nat), vs = [.ref d, .str (Tx w)] ∧ TabAt 1000 H d tab ∧ w.length ≤ 1000 ∧ (∀ x ns, tab x = some ns → ns.length = x.length + 1) ∧
  ∀ H' r (F : List Int), Same H H' → H r = none → F.length = w.length + 3 → Bst (MP tab (dotted w)) F → H' r = some (.lst (((F.drop 1).take (w.length + 1)).map V.int)) → Q (.ref r) H'
section
variable {P : Program} {w : World} {K : PySem.W.Frag} {mg : Str → Option Value} {base : Heap}
theorem ok_NO {f : Addr} {fd : FuncData} {k : Nat} (F : Fun K "numbers_of" "numbers_of" sNO f fd) (B : Bi mg) : FnOk P w K mg base CX0 (k + 1) f fd ["table", "word"] spNO := by
  refine F.ok scNO (fun vs H Q E h => ?_) (fun cdv A outer s H vs Q E hr h => ?_)
  · obtain ⟨d, tab, wd, rfl, _⟩ := h
    rfl
  · obtain ⟨d, tab, wd, rfl, ht, hlen, hns, q⟩ := h
    have hu := hu_of hr
    obtain ⟨tk, mL⟩ := B.lon
    refine ⟨_, pss_cons (ps_set (i := 2) scNO.nd rfl (.inl rfl) (pe_op op_add_str (pe_op op_add_str pe_str (pv 1)) pe_str))
      (pss_cons (ps_set (i := 3) scNO.nd rfl (.inl rfl) (pe_op op_rep (pe_lst (pa_cons pe_int pa_nil)) (pe_op op_add (pe_callB call_len_str (by rfl) B.len PySem.boot_len (pa_cons (pv 2) pa_nil)) pe_int)))
      (pss_cons (ps_for PassesOwn.never rfl (pi_range1 (by rfl) B.range (pa_cons (pe_callB call_len_str (by rfl) B.len PySem.boot_len (pa_cons (pv 2) pa_nil)) pa_nil)) (pg_name (i := 4) scNO.nd rfl (.inl rfl))
        (pss_one (ps_for PassesOwn.never rfl (pi_range2 (by rfl) B.range (pa_cons (pe_op op_add (pv 4) pe_int) (pa_cons (pe_op op_add (pe_callB (call_min2 rfl) (by rfl) B.min (by decide +kernel)
              (pa_cons (pe_callB call_len_str (by rfl) B.len PySem.boot_len (pa_cons (pv 2) pa_nil)) (pa_cons (pe_op op_add (pe_op op_add (pv 4) (pe_glob (v := .int 12) (by rfl) mL ⟨_, rfl⟩)) pe_int) pa_nil))) pe_int) pa_nil))) (pg_name (i := 5) scNO.nd rfl (.inl rfl))
          (pss_cons (ps_set (i := 6) scNO.nd rfl (.inl rfl) (pe_dget1 hu (pv 0) (pe_slice sl_str (pv 2) (po_some (pv 4)) (po_some (pv 5))) ⟨rfl, rfl, rfl, rfl⟩))
          (pss_one (ps_if (pt_cmpR op_notN (pv 6) pe_non (nomark _))
            (pss_one (ps_for PassesOwn.never rfl (pi_enum (by rfl) B.enum (pa_cons (pv 6) pa_nil)) (pg_tup rfl (pgs_cons (pg_name (i := 7) scNO.nd rfl (.inl rfl)) (pgs_cons (pg_name (i := 8) scNO.nd rfl (.inl rfl)) pgs_nil)))
              (pss_one (ps_asg (pe_callB (call_max2 rfl) (by rfl) B.max (by decide +kernel) (pa_cons (pe_ix ix_list (pv 3) (pe_op op_add (pv 4) (pv 7)) (fun _ _ => rfl)) (pa_cons (pv 8) pa_nil))) (pg_sub (pv 3) (pe_op op_add (pv 4) (pv 7)) set_list))))) pss_nil))))))
      (pss_one (ps_ret (pe_slice sl_list (pv 3) (po_some pe_int) (po_some (pe_un un_neg pe_int))))))), ?_⟩
    refine ⟨_, rfl, _, _, rfl, rfl, ?_, _, _, rfl, rfl, ?_, ?_⟩
    · rw [dot_eq, Tx_len, Tx_len]
      exact small1002 (by show 1 + wd.length ≤ _; omega)
    · rw [dot_eq, Tx_app, Tx_len, Tx_len]
      exact small1002 (by rw [List.length_append]; show 1 + wd.length + 1 ≤ _; omega)
    rw [dot_word]
    have hD : (dotted wd).length = wd.length + 2 := dotted_len wd
    refine ⟨(by show 1 ≤ sizeLine; decide), fun f0 nf0 => ?_⟩
    refine ⟨_, rfl, _, rfl, (by rw [Tx_len, hD]; exact small1002 (by omega)), _, _, rfl, rfl, f0, _, _, rfl, rfl, upd_same, ?_, ?_, ?_, fun f nf => ?_⟩
    · rw [Tx_len]; omega
    · rw [Tx_len]; omega
    · rw [Tx_len, hD]
      exact small1002 (by show 1 * _ ≤ _; omega)
    have e0 : ((((Tx (dotted wd)).length : Nat) : Int) + 1).toNat = wd.length + 3 := by
      rw [Tx_len, hD]; omega
    rw [e0, repl_ints]
    have s1 : Same H (upd (upd H f0 (.lst [.int 0])) f (.lst ((List.replicate (wd.length + 3) (0 : Int)).map V.int))) := (same_upd nf0).trans (same_upd nf)
    have nf : H f = none := (same_upd nf0).free nf
    have e1 : (upd (upd H f0 (.lst [.int 0])) f (.lst ((List.replicate (wd.length + 3) (0 : Int)).map V.int))) f = some (.lst ((List.replicate (wd.length + 3) (0 : Int)).map V.int)) := upd_same
    revert s1 e1
    generalize (upd (upd H f0 (.lst [.int 0])) f (.lst ((List.replicate (wd.length + 3) (0 : Int)).map V.int))) = H1
    intro s1 e1
    refine ⟨_, rfl, _, rfl, (by rw [Tx_len, hD]; exact small1002 (by omega)), _, rfl, ?_, ?_, for_it walk_rng0 (fun i σ H' => ∃ (F : List Int) (c4 c5 c6 c7 c8 : Option V), σ = [some (.ref d), some (.str (Tx wd)), some (.str (Tx (dotted wd))), some (.ref f), c4, c5, c6, c7, c8] ∧ Same H H' ∧
        H' f = some (.lst (F.map V.int)) ∧ F.length = wd.length + 3 ∧ Bst (A1 tab (dotted wd) i) F)
      ⟨_, none, none, none, none, none, rfl, s1, e1, List.length_replicate, (Bst.start _).congr a1_zero⟩ (fun _ _ _ _ _ => trivial) ?_ ?_⟩
    · rw [Tx_len, hD]; omega
    · rw [Tx_len, hD]; omega
    · rintro i x σ H2 H3 hi ⟨F, c4, c5, c6, c7, c8, rfl, s2, e2, hF, hB⟩ ⟨rfl, rfl⟩
      have hi : i < (dotted wd).length := by
        rw [Tx_len] at hi
        omega
      have hm : (if ((i : Nat) : Int) + 12 + 2 < (((Tx (dotted wd)).length : Nat) : Int) then ((i : Nat) : Int) + 12 + 2 else (((Tx (dotted wd)).length : Nat) : Int)) = ((min (dotted wd).length (i + 14) : Nat) : Int) := by
        rw [Tx_len]
        split <;> omega
      refine ⟨_, rfl, _, _, rfl, rfl, _, rfl, _, rfl, (by rw [Tx_len, hD]; exact small1002 (by omega)), _, rfl, _, _, rfl, rfl, _, _, rfl, rfl, _, _, rfl, ?_⟩
      rw [hm]
      refine ⟨_, _, rfl, rfl, _, _, rfl, ⟨by omega, by omega, by omega, by omega⟩, ?_⟩
      rw [show (((min (dotted wd).length (i + 14) : Nat) : Int) + 1 - (((i : Nat) : Int) + 1)).toNat = min (dotted wd).length (i + 14) - i by omega]
      refine for_it (walk_rngE (m := i + 1) (by omega)) (fun j σ H' => ∃ (F : List Int) (c5 c6 c7 c8 : Option V), σ = [some (.ref d), some (.str (Tx wd)), some (.str (Tx (dotted wd))), some (.ref f), some (.int i), c5, c6, c7, c8] ∧ Same H H' ∧
        H' f = some (.lst (F.map V.int)) ∧ F.length = wd.length + 3 ∧ Bst (A2 tab (dotted wd) i j) F)
        ⟨F, c5, c6, c7, c8, rfl, s2, e2, hF, hB.congr (a2_zero i)⟩ (fun _ _ _ _ _ => trivial) ?_ ?_
      · rintro j x σ H4 H5 hj ⟨F, c5, c6, c7, c8, rfl, s4, e4, hF, hB⟩ ⟨rfl, rfl⟩
        have hj : i + 1 + j ≤ (dotted wd).length := by omega
        obtain ⟨kvs, ek, hk, hx⟩ := ht.same s4
        refine ⟨_, rfl, d, rfl, .inl ⟨kvs, .inl ek⟩, _, rfl, _, rfl, _, rfl, _, rfl, _, rfl, _, rfl, (by rw [Tx_len, hD]; exact small1002 (by omega)), ?_⟩
        rw [cut_text (dotted wd) (show i ≤ i + 1 + j by omega) hj]
        refine ⟨_, DGet.k (k := Sum.inr (Tx (sub (dotted wd) i (i + 1 + j)))) ek, ?_⟩
        rcases hx (sub (dotted wd) i (i + 1 + j)) with ⟨h1, h2⟩ | ⟨l, ns, h1, h2, h3⟩
        · rw [h1]
          refine ⟨_, rfl, rfl, _, rfl, iteF ?_⟩
          exact ⟨F, _, _, c7, c8, rfl, s4, e4, hF, hB.congr (a2_none h2)⟩
        · rw [h1]
          refine ⟨_, rfl, rfl, _, rfl, iteT ?_⟩
          have hl := hns _ _ h3
          rw [sub_len (by omega) hj] at hl
          have nlf : l ≠ f := fun z => by
            rcases ht with ⟨kvs', ek', _, hx'⟩
            have e' := s4 _ _ ek'
            rw [ek] at e'
            cases e'
            rcases hx' (sub (dotted wd) i (i + 1 + j)) with ⟨g1, _⟩ | ⟨l', ns', g1, g2, _⟩
            · rw [h1] at g1
              cases g1
            · rw [h1] at g1
              cases g1
              rw [z, nf] at g2
              cases g2
          refine ⟨_, rfl, l, ns.map V.int, rfl, SqL.of h2, for_it walk_enum (fun k σ H' => ∃ (F : List Int) (c7 c8 : Option V), σ = [some (.ref d), some (.str (Tx wd)), some (.str (Tx (dotted wd))), some (.ref f), some (.int i), some (.int ((i + 1 + j : Nat) : Int)), some (.ref l), c7, c8] ∧ Same H H' ∧
              H' l = some (.lst (ns.map V.int)) ∧ H' f = some (.lst (F.map V.int)) ∧ F.length = wd.length + 3 ∧ Bst (A3 tab (dotted wd) i j ns k) F)
            ⟨F, c7, c8, rfl, s4, h2, e4, hF, hB.congr (a3_zero i j ns)⟩ (fun k σ H' _ ⟨_, _, _, _, _, el, _⟩ => SqL.of el) ?_ ?_⟩
          · rintro k x σ H6 H7 hk' ⟨F, c7, c8, rfl, s6, el, e6, hF, hB⟩ ⟨T, y1, y2, rfl, nT, rfl, g1, g2⟩
            rw [List.length_map] at hk'
            cases g1
            obtain ⟨m, hm, rfl⟩ := ints_at g2
            refine ⟨T, _, rfl, SqT.of upd_same, rfl, _, _, rfl, _, _, rfl, rfl, ?_⟩
            have e7 : (upd H6 T (.tup [.int ((k : Nat) : Int), .int m])) f = some (.lst (F.map V.int)) := by
              rw [upd_ne (ne_of_none e6 nT)]
              exact e6
            have hik : i + k < F.length := by omega
            have hv : F[i + k]? = some F[i + k] := List.getElem?_eq_getElem hik
            have ez : ((i : Nat) : Int) + ((k : Nat) : Int) = ((i + k : Nat) : Int) := by omega
            refine ⟨_, rfl, _, rfl, _, rfl, _, _, rfl, rfl, f, _, _, _, rfl, rfl, SqL.of e7, at_of ez (ints_get hv), _, rfl, _, _, rfl, _, rfl, _, rfl, _, rfl, _, _, rfl, rfl, f, _, _, i + k, rfl, rfl, e7, ?_, ?_⟩
            · rw [ez, List.length_map]
              exact ixN_nat hik
            · refine ⟨F.set (i + k) (if m > F[i + k] then m else F[i + k]), _, _, rfl, same_put (s6.trans (same_upd nT)) nf, ?_, ?_, ?_, (hB.put hv m).congr (a3_succ hm)⟩
              · rw [upd_ne nlf, upd_ne (ne_of_none el nT)]
                exact el
              · rw [upd_same, List.map_set]
              · rw [List.length_set]
                exact hF
          · rintro σ H6 ⟨F, c7, c8, rfl, s6, el, e6, hF, hB⟩
            rw [List.length_map] at hB
            exact ⟨F, _, _, c7, c8, rfl, s6, e6, hF, hB.congr (a3_end h3)⟩
      · rintro σ H4 ⟨F, c5, c6, c7, c8, rfl, s4, e4, hF, hB⟩
        exact ⟨F, _, c5, c6, c7, c8, rfl, s4, e4, hF, hB.congr (a2_end hi rfl)⟩
    · rintro σ H2 ⟨F, c4, c5, c6, c7, c8, rfl, s2, e2, hF, hB⟩
      rw [show ((((Tx (dotted wd)).length : Nat) : Int)).toNat = (dotted wd).length by rw [Tx_len]; omega] at hB
      refine ⟨_, rfl, 1, rfl, 1, rfl, -1, rfl, f, _, rfl, SqL.of e2, fun r nr => ?_⟩
      rw [cut_in _ (by rw [List.length_map]; omega), List.length_map, hF]
      refine q _ r F (s2.trans (same_upd nr)) (s2.free nr) hF hB ?_
      rw [upd_same, ← List.map_drop, ← List.map_take]
      rfl
end
end G
/-! GDI: Divider.__init__. -/
namespace G
open PySem PySem.Spec PyProof.Rows L2 TL GM
/-! ### the instance -/
def f1 (t : Addr) : List (Str × V) := putF "table" (.ref t) []
def f2 (t e : Addr) : List (Str × V) := putF "words" (.ref e) (f1 t)
def f3 (t e : Addr) (l : Int) : List (Str × V) := putF "left" (.int l) (f2 t e)
def f4 (t e : Addr) (l r : Int) : List (Str × V) := putF "right" (.int r) (f3 t e l)
theorem ne_tw : ¬ (("table" : Str) = "words") := by decide +kernel
theorem ne_tl : ¬ (("table" : Str) = "left") := by decide +kernel
theorem ne_tr : ¬ (("table" : Str) = "right") := by decide +kernel
theorem ne_wl : ¬ (("words" : Str) = "left") := by decide +kernel
theorem ne_wr : ¬ (("words" : Str) = "right") := by decide +kernel
theorem ne_lr : ¬ (("left" : Str) = "right") := by decide +kernel
theorem f4_table (t e : Addr) (l r : Int) : (f4 t e l r).lookup ("table" : Str) = some (.ref t) := by
  unfold f4 f3 f2 f1
  rw [lookup_putF, if_neg ne_tr, lookup_putF, if_neg ne_tl, lookup_putF, if_neg ne_tw, lookup_putF, if_pos rfl]
theorem f4_words (t e : Addr) (l r : Int) : (f4 t e l r).lookup ("words" : Str) = some (.ref e) := by
  unfold f4 f3 f2
  rw [lookup_putF, if_neg ne_wr, lookup_putF, if_neg ne_wl, lookup_putF, if_pos rfl]
theorem f4_left (t e : Addr) (l r : Int) : (f4 t e l r).lookup ("left" : Str) = some (.int l) := by
  unfold f4 f3
  rw [lookup_putF, if_neg ne_lr, lookup_putF, if_pos rfl]
theorem f4_right (t e : Addr) (l r : Int) : (f4 t e l r).lookup ("right" : Str) = some (.int r) := by
  unfold f4
  rw [lookup_putF, if_pos rfl]
theorem f4_no (t e : Addr) (l r : Int) {m : Str} (h1 : ¬ m = "table") (h2 : ¬ m = "words") (h3 : ¬ m = "left") (h4 : ¬ m = "right") : (f4 t e l r).lookup m = none := by
  unfold f4 f3 f2 f1
  rw [lookup_putF, if_neg h4, lookup_putF, if_neg h3, lookup_putF, if_neg h2, lookup_putF, if_neg h1]
  rfl
theorem f2_words (t e : Addr) : (f2 t e).lookup ("words" : Str) = some (.ref e) := by
  unfold f2
  rw [lookup_putF, if_pos rfl]
theorem len_putF (f : Str) (v : V) : ∀ fs : List (Str × V), (putF f v fs).length ≤ fs.length + 1
  | [] => Nat.le_refl _
  | (g, x) :: r => by
    show (if g = f then (g, v) :: r else (g, x) :: putF f v r).length ≤ _
    split
    · exact Nat.le_succ _
    · exact Nat.succ_le_succ (len_putF f v r)
theorem f1_len (t : Addr) : (f1 t).length ≤ 1 := len_putF _ _ _
theorem f2_len (t e : Addr) : (f2 t e).length ≤ 2 := Nat.le_trans (len_putF _ _ _) (Nat.succ_le_succ (f1_len t))
theorem f3_len (t e : Addr) (l : Int) : (f3 t e l).length ≤ 3 := Nat.le_trans (len_putF _ _ _) (Nat.succ_le_succ (f2_len t e))
/-- a Divider stands at p: its tables are T and X -/
def DivAt (C : Addr) (H : Hp) (p : Addr) (T : Tab) (X : List (List (List Nat))) (l r : Int) : Prop :=
  ∃ dx t e tab wtab, H p = some (.ins C dx (f4 t e l r)) ∧ TabAt 1000 H t tab ∧ Tis tab T ∧ TabAt 1000 H e wtab ∧ Tis wtab (X.map exc)
theorem DivAt.same {C : Addr} {H H' : Hp} {p : Addr} {T : Tab} {X : List (List (List Nat))} {l r : Int} (h : DivAt C H p T X l r) (s : Same H H') : DivAt C H' p T X l r := by
  obtain ⟨dx, t, e, tab, wtab, h1, h2, h3, h4, h5⟩ := h
  exact ⟨dx, t, e, tab, wtab, s _ _ h1, h2.same s, h3, h4.same s, h5⟩
/-- what a language is made of -/
structure LangAt (K : PySem.W.Frag) (H : Hp) (hy : Addr) (T : Tab) (X : List (List (List Nat))) (l r : Int) : Prop where
  ex : ∃ pl el ls xs, SqT K H hy [.str "hyphens", .ref pl, .ref el, .int l, .int r] ∧ SqL K H pl (SL ls) ∧ SqL K H el (SL xs) ∧ Zp PatR ls T ∧ Zp Div xs X ∧ ls.length ≤ 1000 ∧ xs.length ≤ 1000
  nT : (T.map Prod.fst).Nodup
  nX : (X.map List.flatten).Nodup
theorem Same.seqT {K : PySem.W.Frag} {H H' : Hp} {a : Addr} {xs : List V} (e : Same H H') (h : SqT K H a xs) : SqT K H' a xs := by
  rcases h with (h | ⟨o, h⟩) | h
  · exact .inl (.inl (e _ _ h))
  · exact .inl (.inr ⟨o, e _ _ h⟩)
  · exact .inr h
theorem SameX.seqT {K : PySem.W.Frag} {H H' : Hp} {p C dx a : Addr} {fs : List (Str × V)} {xs : List V} (s : SameX p H H') (hp : H p = some (.ins C dx fs)) (h : SqT K H a xs) : SqT K H' a xs := by
  rcases h with (h | ⟨o, h⟩) | h
  · exact .inl (.inl (s _ _ h (ne_of h hp (by intro z; cases z))))
  · exact .inl (.inr ⟨o, s _ _ h (ne_of h hp (by intro z; cases z))⟩)
  · exact .inr h
theorem SameX.seqL {K : PySem.W.Frag} {H H' : Hp} {p C dx a : Addr} {fs : List (Str × V)} {xs : List V} (s : SameX p H H') (hp : H p = some (.ins C dx fs)) (h : SqL K H a xs) : SqL K H' a xs := by
  rcases h with (h | ⟨o, h⟩) | h
  · exact .inl (.inl (s _ _ h (ne_of h hp (by intro z; cases z))))
  · exact .inl (.inr ⟨o, s _ _ h (ne_of h hp (by intro z; cases z))⟩)
  · exact .inr h
theorem LangAt.same {K : PySem.W.Frag} {H H' : Hp} {hy : Addr} {T : Tab} {X : List (List (List Nat))} {l r : Int} (h : LangAt K H hy T X l r) (s : Same H H') : LangAt K H' hy T X l r := by
  obtain ⟨⟨pl, el, ls, xs, h1, h2, h3, h4⟩, h5, h6⟩ := h
  exact ⟨⟨pl, el, ls, xs, Same.seqT s h1, s.seq h2, s.seq h3, h4⟩, h5, h6⟩
abbrev nDI : List Str := ["self", "hyphens", "exception", "letters", "places"]
theorem scDI : FnScope nDI ["self", "hyphens"] (defScope sDI) := ⟨rfl, rfl, rfl, by decide +kernel, rfl, by decide +kernel, by decide +kernel⟩
def spDI (K : PySem.W.Frag) (C : Addr) : Sp := fun vs H Q _ => ∃ (p dx hy : Addr) (T : Tab) (X : List (List (List Nat))) (l r : Int), vs = [.ref p, .ref hy] ∧ H p = some (.ins C dx []) ∧ LangAt K H hy T X l r ∧
  ∀ H', SameX p H H' → DivAt C H' p T X l r → Q .non H'
/-- the class -/
structure Cl (K : PySem.W.Frag) (mg : Str → Option Value) (C : Addr) : Prop where
  cl : Cls K C
  nT : NoAttr K C "table"
  nW : NoAttr K C "words"
  nL : NoAttr K C "left"
  nR : NoAttr K C "right"
  mgC : mg "Divider" = some (.ref C)
section
variable {P : Program} {w : World} {K : PySem.W.Frag} {mg : Str → Option Value} {base : Heap}
theorem ok_DI {f fT fW C : Addr} {fd fdT fdW : FuncData} (F : Fun K "__init__" "Divider.__init__" sDI f fd) (B : Bi mg) (C0 : Cl K mg C) (GT : FnOk P w K mg base CX0 2 fT fdT ["patterns"] (spTO K)) (kT : PySem.W.keepIn K (.ref fT) = true) (bT : Binds K fdT ["patterns"] []) (gT : mg "table_of" = some (.ref fT))
    (GW : FnOk P w K mg base CX0 1 fW fdW ["word"] spPW) (kW : PySem.W.keepIn K (.ref fW) = true) (bW : Binds K fdW ["word"] []) (gW : mg "parse_word" = some (.ref fW)) : FnOk P w K mg base CX0 3 f fd ["self", "hyphens"] (spDI K C) := by
  refine F.ok scDI (fun vs H Q E h => ?_) (fun cdv A outer s H vs Q E hr h => ?_)
  · obtain ⟨p, dx, hy, T, X, l, r, rfl, _⟩ := h
    rfl
  · obtain ⟨p, dx, hy, T, X, l, r, rfl, hp, ⟨⟨pl, el, ls, xs, hH, hL, hE, zT, zX, hl1, hl2⟩, nT, nX⟩, q⟩ := h
    have hu := hu_of hr
    have hr1 : Room 1 _ := hr.mono (by decide)
    refine ⟨_, pss_cons (ps_fld (pv 0) (pe_call GT hr (by rfl) gT kT bT .nil pass0 (pa_cons (pe_ix ix_tup (pv 1) pe_int (fun _ _ => rfl)) pa_nil)) rfl)
      (pss_cons (ps_fld (pv 0) pe_dnewK rfl)
      (pss_cons (ps_for PassesOwn.never rfl (pi_list (pe_ix ix_tup (pv 1) pe_int (fun _ _ => rfl))) (pg_name (i := 2) scDI.nd rfl (.inl rfl))
        (pss_cons (ps_asg (pe_call GW hr1 (by rfl) gW kW bW .nil pass0 (pa_cons (pv 2) pa_nil)) (pg_tup rfl (pgs_cons (pg_name (i := 3) scDI.nd rfl (.inl rfl)) (pgs_cons (pg_name (i := 4) scDI.nd rfl (.inl rfl)) pgs_nil))))
        (pss_one (ps_dput hu (pe_fld (pv 0) rfl) (pv 3) (pv 4) rfl))))
      (pss_cons (ps_fld (pv 0) (pe_ix ix_tup (pv 1) pe_int (fun _ _ => rfl)) rfl)
      (pss_one (ps_fld (pv 0) (pe_ix ix_tup (pv 1) pe_int (fun _ _ => rfl)) rfl))))), ?_⟩
    refine ⟨_, rfl, hy, _, 1, _, rfl, rfl, hH, atI_nat (j := 1) rfl, pl, ls, T, rfl, hL, zT, nT, hl1, fun H1 t tab s1 nt ht hT => ?_⟩
    refine ⟨_, rfl, p, C, dx, [], rfl, s1 _ _ hp, C0.cl, C0.nT, (by show 0 < 1000; decide), ?_⟩
    have npt : p ≠ t := ne_of_none hp nt
    intro e ne
    have npe : p ≠ e := fun z => by
      rw [z, upd_same] at ne
      cases ne
    rw [upd_ne npe.symm] at ne
    have ne0 : H e = none := s1.free ne
    refine ⟨_, rfl, p, C, dx, f1 t, rfl, (by rw [upd_ne npe]; exact upd_same), C0.cl, C0.nW, (by have := f1_len t; omega), ?_⟩
    have x1 : SameX p H (upd (upd (upd H1 p (.ins C dx (f1 t))) e (.dK [])) p (.ins C dx (f2 t e))) := (((SameX.of s1).upd _).put ne0 _).upd _
    have x2 : SameX p H1 (upd (upd (upd H1 p (.ins C dx (f1 t))) e (.dK [])) p (.ins C dx (f2 t e))) := (((SameX.refl p H1).upd _).put ne _).upd _
    have ep : (upd (upd (upd H1 p (.ins C dx (f1 t))) e (.dK [])) p (.ins C dx (f2 t e))) p = some (.ins C dx (f2 t e)) := upd_same
    have ee : (upd (upd (upd H1 p (.ins C dx (f1 t))) e (.dK [])) p (.ins C dx (f2 t e))) e = some (.dK []) := by
      rw [upd_ne npe.symm, upd_same]
    show tSeq _ _ _ _ (upd (upd (upd H1 p (.ins C dx (f1 t))) e (.dK [])) p (.ins C dx (f2 t e)))
    revert x1 x2 ep ee
    generalize (upd (upd (upd H1 p (.ins C dx (f1 t))) e (.dK [])) p (.ins C dx (f2 t e))) = H2
    intro x1 x2 ep ee
    have hT1 : TabAt 1000 H2 t tab := ht.sameX x2 (s1 _ _ hp)
    have nte : t ≠ e := fun z => by
      obtain ⟨kvs, ek, _⟩ := ht
      rw [z, ne] at ek
      cases ek
    refine ⟨_, rfl, hy, _, 2, _, rfl, rfl, x1.seqT hp hH, atI_nat (j := 2) rfl, el, rfl, ⟨_, x1.seqL hp hE⟩, for_list (K := K) (a := el) (xs := SL xs) (fun i σ H' => ∃ (wtab : List Nat → Option (List Int)) (c2 c3 c4 : Option V), σ = [some (.ref p), some (.ref hy), c2, c3, c4] ∧
        SameX p H H' ∧ H' p = some (.ins C dx (f2 t e)) ∧ TabAt 1000 H' t tab ∧ TabAt i H' e wtab ∧ Tis wtab ((X.map exc).take i))
      ⟨fun _ => none, none, none, none, rfl, x1, ep, hT1, ⟨[], ee, Nat.le_refl _, fun _ => .inl ⟨rfl, rfl⟩⟩, Tis.nil⟩ (fun i σ H' _ ⟨_, _, _, _, _, sx, _⟩ => sx.seqL hp hE) ?_ ?_⟩
    · rintro i x σ H3 hx ⟨wtab, c2, c3, c4, rfl, sx, ep, h3, h4, h5⟩
      obtain ⟨u, hu', rfl⟩ := SL_at hx
      obtain ⟨ps, hps, hd⟩ := zX.get hu'
      have hi : i < xs.length := (List.getElem?_eq_some_iff.mp hu').1
      refine ⟨_, rfl, u, ps, rfl, hd, fun H4 tp n s4 ntp nn etp en => ?_⟩
      refine ⟨tp, _, rfl, SqT.of etp, rfl, _, _, rfl, _, _, rfl, rfl, ?_⟩
      have ep4 := s4 _ _ ep
      obtain ⟨kvs, ek, hk, h6⟩ := (h4.same s4).put (sg := ps.flatten) en
      refine ⟨_, rfl, _, rfl, p, C, dx, _, _, rfl, ep4, C0.cl, C0.nW, f2_words _ _, _, rfl, e, _, rfl, DPut.k (k := Sum.inr (Tx ps.flatten)) ek (small1001 (by omega)), ?_⟩
      refine ⟨_, some (.str (Tx u)), some (.str (Tx ps.flatten)), some (.ref n), rfl, (sx.trans (SameX.of s4)).put ne0 _, ?_, ?_, h6, ?_⟩
      · rw [upd_ne npe]
        exact ep4
      · exact (h3.same s4).other ek nte
      · have ht : (X.map exc)[i]? = some (exc ps) := by
          rw [List.getElem?_map, hps]
          rfl
        rw [take_snoc ht]
        have hf : ∀ y ∈ (X.map exc).take i, y.1 ≠ (exc ps).1 := fresh_take (f := Prod.fst) (l := X.map exc) (by
          rw [List.map_map]
          exact nX) ht
        exact h5.put (cum 0 ps.dropLast) hf
    · rintro σ H3 ⟨wtab, c2, c3, c4, rfl, sx, ep, h3, h4, h5⟩
      rw [SL_len] at h4 h5
      rw [List.take_of_length_le (by rw [List.length_map, ← zX.len]; exact Nat.le_refl _)] at h5
      have hH3 := sx.seqT hp hH
      refine ⟨_, rfl, hy, _, 3, _, rfl, rfl, hH3, atI_nat (j := 3) rfl, _, rfl, p, C, dx, f2 t e, rfl, ep, C0.cl, C0.nL, (by have := f2_len t e; omega), ?_⟩
      have x5 : SameX p H3 (upd H3 p (.ins C dx (f3 t e l))) := (SameX.refl p H3).upd _
      refine ⟨_, rfl, hy, _, 4, _, rfl, rfl, x5.seqT ep hH3, atI_nat (j := 4) rfl, _, rfl, p, C, dx, f3 t e l, rfl, upd_same, C0.cl, C0.nR, (by have := f3_len t e l; omega), ?_⟩
      have x6 : SameX p H3 (upd (upd H3 p (.ins C dx (f3 t e l))) p (.ins C dx (f4 t e l r))) := x5.upd _
      refine q _ (sx.trans x6) ⟨dx, t, e, tab, wtab, upd_same, h3.sameX x6 ep, hT, (h4.mono hl2).sameX x6 ep, h5⟩
end
end G
/-! GDW: Divider.word_points. -/
namespace G
open PySem PySem.Spec PyProof.Rows L2 TL GM
theorem bit_one {x : Int} (h : 0 ≤ x) : Builtin.bitAnd x 1 = x % 2 := Bits.bitAnd_mask 1 h
abbrev nDW : List Str := ["self", "word", "marked", "at", "number"]
theorem scDW : FnScope nDW ["self", "word"] (defScope sDW) := ⟨rfl, rfl, rfl, by decide +kernel, rfl, by decide +kernel, by decide +kernel⟩
/-- the entries are well made -/
structure Fit (T : Tab) (X : List (List (List Nat))) : Prop where
  T : ∀ e ∈ T, e.2.length = e.1.length + 1
  X : ∀ ps ∈ X, ps.length ≤ 1000
def spDW (C : Addr) : Sp := fun vs H Q _ => ∃ (p : Addr) (w : List Nat) (T : Tab) (X : List (List (List Nat))) (l r : Int), vs = [.ref p, .str (Tx w)] ∧ DivAt C H p T X l r ∧ Fit T X ∧ w.length ≤ 1000 ∧
  ∀ H' a W, Same H H' → H a = none → WPT T X l r w W → W.length ≤ 2000 → H' a = some (.lst (W.map V.int)) → Q (.ref a) H'
section
variable {P : Program} {w : World} {K : PySem.W.Frag} {mg : Str → Option Value} {base : Heap}
theorem ok_DW {f fN C : Addr} {fd fdN : FuncData} (F : Fun K "word_points" "Divider.word_points" sDW f fd) (B : Bi mg) (C0 : Cl K mg C) (GN : FnOk P w K mg base CX0 1 fN fdN ["table", "word"] spNO) (kN : PySem.W.keepIn K (.ref fN) = true) (bN : Binds K fdN ["table", "word"] []) (gN : mg "numbers_of" = some (.ref fN)) :
    FnOk P w K mg base CX0 2 f fd ["self", "word"] (spDW C) := by
  refine F.ok scDW (fun vs H Q E h => ?_) (fun cdv A outer s H vs Q E hr h => ?_)
  · obtain ⟨p, wd, T, X, l, r, rfl, _⟩ := h
    rfl
  · obtain ⟨p, wd, T, X, l, r, rfl, ⟨dx, t, e, tab, wtab, hp, ht, hT, he, hX⟩, hF, hlen, q⟩ := h
    have hu := hu_of hr
    refine ⟨_, C8.pss_cut (ps_if (pt_cmp (pc_din hu (pv 1) (pe_fld (pv 0) rfl)))
        (pss_one (ps_set (i := 2) scDW.nd rfl (.inl rfl) (pe_dget hu (pe_fld (pv 0) rfl) (pv 1) (fun _ _ => rfl))))
        (pss_one (ps_setLc (i := 2) (own := [("at", 3), ("number", 4)]) (g := gTup K 2 (gCons (gName 3) (gCons (gName 4) gNil))) rfl scDW.nd rfl rfl (sw_true rfl rfl rfl (by decide +kernel))
          (pi_enum (by rfl) B.enum (pa_cons (pe_call GN hr (by rfl) gN kN bN .nil pass0 (pa_cons (pe_fld (pv 0) rfl) (pa_cons (pv 1) pa_nil))) pa_nil))
          (blkOk_by (own := [("at", 3), ("number", 4)]) (N := nDW) (sc := defScope sDW) (by decide +kernel))
          (fun _ _ _ _ _ => pg_tup rfl (pgs_cons (pg_name (i := 3) scDW.nd rfl (Or.inl rfl)) (pgs_cons (pg_name (i := 4) scDW.nd rfl (Or.inl rfl)) pgs_nil)))
          (fun _ _ _ _ _ => pts_one (pt_cmpR op_eq (pe_op op_and (pv 4) pe_int) pe_int (nomark _)))
          (fun _ _ _ _ _ => pv 3))))
      (pss_one (ps_ret (pe_lc (own := [("at", 3)]) (g := gName 3) rfl scDW.nd (pi_list (pv 2)) (blkOk_by (own := [("at", 3)]) (N := nDW) (sc := defScope sDW) (by decide +kernel))
        (fun _ _ _ _ _ => pg_name (i := 3) scDW.nd rfl (Or.inl rfl))
        (fun _ _ _ _ _ => pts_one (pt_chain op_le op_le (show PE _ _ (tFld K (tVar 0) "left") from pe_fld (pv 0) rfl) (pv 3) (pe_op op_sub (pe_callB call_len_str (by rfl) B.len PySem.boot_len (pa_cons (pv 1) pa_nil)) (show PE _ _ (tFld K (tVar 0) "right") from pe_fld (pv 0) rfl))))
        (fun _ _ _ _ _ => pv 3)))), ?_⟩
    refine ⟨fun σ' H' => ∃ (m : Addr) (M : List Int), σ' = [some (.ref p), some (.str (Tx wd)), some (.ref m), none, none] ∧ Same H H' ∧ H' m = some (.lst (M.map V.int)) ∧ M.length ≤ 2000 ∧ WPT T X l r wd (kept l r wd.length M), ?_, ?_⟩
    · obtain ⟨kvs, ek, hk, hx⟩ := id he
      refine ⟨_, rfl, _, rfl, p, C, dx, _, _, rfl, hp, C0.cl, C0.nW, f4_words _ _ _ _, e, _, rfl, DGet.k (k := Sum.inr (Tx wd)) ek, _, rfl, ?_⟩
      rcases hx wd with ⟨h1, h2⟩ | ⟨m, M, h1, h2, h3⟩
      · rw [h1]
        refine iteF ?_
        refine ⟨_, rfl, p, C, dx, _, _, rfl, hp, C0.cl, C0.nT, f4_table _ _ _ _, _, rfl, t, tab, wd, rfl, ht, hlen, fun x ns hx => hF.T _ ((hT x ns).mp hx), fun H1 a G s1 na hG hB ea => ?_⟩
        refine ⟨a, _, rfl, SqL.of ea, fun D nD => lc_it walk_enum (fun i H' => Same H H' ∧ H' a = some (.lst (((G.drop 1).take (wd.length + 1)).map V.int)) ∧ H' D = some (.lst ((odds G i).map V.int)))
          ⟨s1.trans (same_upd nD), by rw [upd_ne (ne_of_none ea nD)]; exact ea, upd_same⟩ (fun i H' _ ⟨_, ea, _⟩ => SqL.of ea) ?_ ?_⟩
        · rintro i x H2 H3 hi ⟨s2, ea2, eD⟩ ⟨U, y1, y2, rfl, nU, rfl, g1, g2⟩
          cases g1
          obtain ⟨n, hn, rfl⟩ := ints_at g2
          rw [List.length_map, List.length_take] at hi
          have hn2 : G[i + 1]? = some n := by
            rw [List.getElem?_take] at hn
            rw [if_pos (by omega), List.getElem?_drop] at hn
            rw [Nat.add_comm i 1]
            exact hn
          have n0 : 0 ≤ n := (hB _ _ hn2).1
          have hodd : oddP G i = decide (n % 2 = 1) := by
            unfold oddP
            rw [List.getD_eq_getElem?_getD, hn2]
            rfl
          have nDU : D ≠ U := ne_of_none eD nU
          have eDU : (upd H2 U (.tup [.int (i : Nat), .int n])) D = some (.lst ((odds G i).map V.int)) := by
            rw [upd_ne nDU]
            exact eD
          have eaU : (upd H2 U (.tup [.int (i : Nat), .int n])) a = some (.lst (((G.drop 1).take (wd.length + 1)).map V.int)) := by
            rw [upd_ne (ne_of_none ea2 nU)]
            exact ea2
          have sU : Same H (upd H2 U (.tup [.int (i : Nat), .int n])) := s2.trans (same_upd nU)
          refine ⟨U, _, rfl, SqT.of upd_same, rfl, _, _, rfl, _, _, rfl, rfl, rfl, ?_⟩
          refine ⟨_, rfl, _, _, rfl, rfl, rfl, _, rfl, ?_⟩
          refine ite2 (fun ho => ?_) (fun ho => ?_)
          · have ho : n % 2 = 1 := (bit_one n0).symm.trans (V.int.inj (of_decide_eq_true ho))
            have hp : oddP G i = true := hodd.trans (decide_eq_true ho)
            refine ⟨_, rfl, _, eDU, ?_, same_put sU (s1.free nD), ?_, ?_⟩
            · rw [List.length_map]
              have := odds_len G i
              exact small1001 (by omega)
            · rw [upd_ne (show a ≠ D from fun z => by rw [z, nD] at ea; cases ea)]
              exact eaU
            · rw [upd_same, odds_yes hp, List.map_append]
              rfl
          · have ho : ¬ n % 2 = 1 := fun z => ho (decide_eq_true (congrArg V.int ((bit_one n0).trans z)))
            have hp : oddP G i = false := hodd.trans (decide_eq_false ho)
            refine ⟨sU, eaU, ?_⟩
            rw [odds_no hp]
            exact eDU
        · rintro H2 ⟨s2, ea2, eD⟩
          rw [List.length_map, List.length_take, List.length_drop, hG] at eD
          rw [show min (wd.length + 1) (wd.length + 3 - 1) = wd.length + 1 by omega] at eD
          refine ⟨D, odds G (wd.length + 1), rfl, s2, eD, ?_, tab, wtab, hT, hX, .inr ⟨h2, G, hG, hB, rfl⟩⟩
          have := odds_len G (wd.length + 1)
          omega
      · rw [h1]
        refine iteT ?_
        refine ⟨_, rfl, p, C, dx, _, _, rfl, hp, C0.cl, C0.nW, f4_words _ _ _ _, _, rfl, e, _, rfl, h1 ▸ DGet.k (k := Sum.inr (Tx wd)) ek, ?_⟩
        refine ⟨m, M, rfl, Same.refl H, h2, ?_, tab, wtab, hT, hX, .inl ⟨M, h3, rfl⟩⟩
        obtain ⟨ps, hps, e1⟩ := List.mem_map.mp ((hX _ _).mp h3)
        have e2 : cum 0 ps.dropLast = M := congrArg Prod.snd e1
        rw [← e2, cum_len, List.length_dropLast]
        have := hF.X ps hps
        omega
    · rintro σ' H1 ⟨m, M, rfl, s1, em, hM, hW⟩
      refine ⟨_, rfl, m, rfl, ⟨_, SqL.of em⟩, fun D nD => lc_list (xs := M.map V.int) (fun i H' => Same H1 H' ∧ H' D = some (.lst ((kept l r wd.length (M.take i)).map V.int)))
        ⟨same_upd nD, upd_same⟩ (fun i H' _ p => p.1.seq (SqL.of em)) ?_ ?_⟩
      · rintro i x H2 hx ⟨s2, eD⟩
        obtain ⟨a, ha, rfl⟩ := ints_at hx
        have hi : i < M.length := (List.getElem?_eq_some_iff.mp ha).1
        have hp2 := s2 _ _ (s1 _ _ hp)
        refine ⟨rfl, ?_⟩
        refine ⟨_, rfl, p, C, dx, _, _, rfl, hp2, C0.cl, C0.nL, f4_left _ _ _ _, _, rfl, _, _, rfl, rfl, _, rfl, ite2 (fun h1 => ?_) (fun h1 => ?_)⟩
        · have h1 : l ≤ a := of_decide_eq_true h1
          refine ⟨_, rfl, _, rfl, (by rw [Tx_len]; exact small1002 (by omega)), _, rfl, p, C, dx, _, _, rfl, hp2, C0.cl, C0.nR, f4_right _ _ _ _, _, _, rfl, rfl, _, _, rfl, rfl, _, rfl, ?_⟩
          rw [Tx_len]
          refine ite2 (fun h2 => ?_) (fun h2 => ?_)
          · have h2 : a ≤ (wd.length : Int) - r := of_decide_eq_true h2
            refine ⟨_, rfl, _, eD, ?_, same_put s2 nD, ?_⟩
            · rw [List.length_map]
              have h3 := kept_len l r wd.length (M.take i)
              rw [List.length_take] at h3
              exact small1001 (by omega)
            · rw [upd_same, kept_yes ha ⟨h1, h2⟩, List.map_append]
              rfl
          · have h2 : ¬ a ≤ (wd.length : Int) - r := fun z => h2 (decide_eq_true z)
            refine ⟨s2, ?_⟩
            rw [kept_no ha fun z => h2 z.2]
            exact eD
        · have h1 : ¬ l ≤ a := fun z => h1 (decide_eq_true z)
          refine ⟨_, rfl, iteF ⟨s2, ?_⟩⟩
          rw [kept_no ha fun z => h1 z.1]
          exact eD
      · rintro H2 ⟨s2, eD⟩
        rw [List.length_map, List.take_of_length_le (Nat.le_refl _)] at eD
        refine q H2 D _ (s1.trans s2) (s1.free nD) hW ?_ eD
        have := kept_len l r wd.length M
        omega
end
end G
/-! GDP: Divider.points. -/
namespace G
open PySem PySem.Spec PyProof.Rows L2 TL GM
theorem lower_same {w : List Nat} (h : Lc w) : Txt.lower (Tx w) = Tx w := by
  have e := PyProof.Rows.lower_ascii (x := Tx w) (fun c hc => by
    have hc : c ∈ w := hc
    have := h c hc
    omega)
  rw [e]
  refine ext_tl ?_
  show (w.toArray.map lo1).toList = w
  rw [Array.toList_map]
  have : w.map lo1 = w.map id := List.map_congr_left fun c hc => by
    have := h c hc
    obtain ⟨h1, h2⟩ := this
    have hh : c = 97 ∨ c = 98 ∨ c = 99 := by omega
    rcases hh with rfl | rfl | rfl <;> decide
  show w.map lo1 = w
  rw [this, List.map_id]
abbrev nDP : List Str := ["self", "word", "small", "found", "start", "at", "point"]
theorem scDP : FnScope nDP ["self", "word"] (defScope sDP) := ⟨rfl, rfl, rfl, by decide +kernel, rfl, by decide +kernel, by decide +kernel⟩
def spDP (C : Addr) : Sp := fun vs H Q _ => ∃ (p : Addr) (w : List Nat) (T : Tab) (X : List (List (List Nat))) (l r : Int), vs = [.ref p, .str (Tx w)] ∧ DivAt C H p T X l r ∧ Fit T X ∧ w.length ≤ 1000 ∧ Lc w ∧
  ∀ H' a W, Same H H' → H a = none → WPT T X l r w W → H' a = some (.lst (W.map V.int)) → Q (.ref a) H'
section
variable {P : Program} {w : World} {K : PySem.W.Frag} {mg : Str → Option Value} {base : Heap}
theorem ok_DP {f fD C : Addr} {fd fdD : FuncData} (F : Fun K "points" "Divider.points" sDP f fd) (B : Bi mg) (C0 : Cl K mg C) (GD : FnOk P w K mg base CX0 2 fD fdD ["self", "word"] (spDW C)) (mD : Meth K C "word_points" fD) (bD : Binds K fdD ["self", "word"] []) :
    FnOk P w K mg base CX0 3 f fd ["self", "word"] (spDP C) := by
  refine F.ok scDP (fun vs H Q E h => ?_) (fun cdv A outer s H vs Q E hr h => ?_)
  · obtain ⟨p, wd, T, X, l, r, rfl, _⟩ := h
    rfl
  · obtain ⟨p, wd, T, X, l, r, rfl, hD, hF, hlen, hLc, q⟩ := h
    obtain ⟨tk, mL⟩ := B.let_
    refine ⟨_, pss_cons (ps_set (i := 2) scDP.nd rfl (.inl rfl) (pe_lower (pv 1)))
      (pss_cons (ps_set (i := 3) scDP.nd rfl (.inl rfl) (pe_lst pa_nil))
      (pss_cons (ps_set (i := 4) scDP.nd rfl (.inr rfl) pe_int)
      (pss_cons (ps_for PassesOwn.never rfl (pi_range1 (by rfl) B.range (pa_cons (pe_op op_add (pe_callB call_len_str (by rfl) B.len PySem.boot_len (pa_cons (pv 2) pa_nil)) pe_int) pa_nil)) (pg_name (i := 5) scDP.nd rfl (.inl rfl))
        (pss_one (ps_if (PW.pt (pw_or (pt_cmpR op_eq (pv 5) (pe_callB call_len_str (by rfl) B.len PySem.boot_len (pa_cons (pv 2) pa_nil)) (nomark _))
            (pw_or1 (pt_cmpR op_notIn_sign (pe_ix ix_str (pv 2) (pv 5) (fun _ _ => rfl)) (pe_glob (v := .str "abcdefghijklmnopqrstuvwxyz") (by rfl) mL ⟨_, rfl⟩) (by rfl)))))
          (pss_cons (ps_expr (pe_bm PySem.F.plainAttrs_list PySem.F.slot_list_extend PySem.F.type_list_extend mt_extend (pv 3) (pa_cons
              (pe_lc (own := [("point", 6)]) (g := gName 6) (tt := tYes) rfl scDP.nd (pi_list (pe_meth (pv 0) C0.cl mD GD hr bD .nil pass0 (pa_cons (pe_slice sl_str (pv 2) (po_some (pv 4)) (po_some (pv 5))) pa_nil)))
                (blkOk_by (own := [("point", 6)]) (N := nDP) (sc := defScope sDP) (by decide +kernel))
                (fun _ _ _ _ _ => pg_name (i := 6) scDP.nd rfl (Or.inl rfl)) (fun _ _ _ _ _ => pts_nil) (fun _ _ _ _ _ => pe_op op_add (pv 4) (pv 6))) pa_nil)))
          (pss_one (ps_set (i := 4) scDP.nd rfl (.inr rfl) (pe_op op_add (pv 5) pe_int)))) pss_nil)))
      (pss_one (ps_ret (pv 3)))))), ?_⟩
    refine ⟨_, rfl, ⟨_, rfl⟩, _, rfl, rfl, (by rw [Tx_len]; show wd.length ≤ 5592405; omega), ?_⟩
    rw [lower_same hLc]
    refine ⟨Nat.zero_le _, fun f0 nf => ?_⟩
    refine ⟨_, rfl, _, rfl, (by rw [Tx_len]; exact small1002 (by omega)), _, _, rfl, rfl, _, rfl, ?_, ?_, for_it walk_rng0 (fun i σ H' => ∃ (z : Int) (acc : List Int) (c5 : Option V), σ = [some (.ref p), some (.str (Tx wd)), some (.str (Tx wd)), some (.ref f0), some (.int z), c5, none] ∧ Same H H' ∧
        H' f0 = some (.lst (acc.map V.int)) ∧ ((i ≤ wd.length ∧ z = 0 ∧ acc = []) ∨ (i = wd.length + 1 ∧ WPT T X l r wd acc)))
      ⟨0, [], none, rfl, same_upd nf, upd_same, .inl ⟨Nat.zero_le _, rfl, rfl⟩⟩ (fun _ _ _ _ _ => trivial) ?_ ?_⟩
    · rw [Tx_len]; omega
    · rw [Tx_len]; omega
    · rintro i x σ H1 H2 hi ⟨z, acc, c5, rfl, s1, ef, hc⟩ ⟨rfl, rfl⟩
      rw [Tx_len] at hi
      have hi : i < wd.length + 1 := by omega
      rcases hc with ⟨_, rfl, rfl⟩ | ⟨hc, _⟩
      · refine ⟨_, rfl, _, rfl, _, rfl, (by rw [Tx_len]; exact small1002 (by omega)), rfl, _, rfl, ?_⟩
        rw [Tx_len]
        refine ite2 (fun he => ?_) (fun he => ?_)
        · have he : i = wd.length := by
            have := V.int.inj (of_decide_eq_true he)
            omega
          refine iteT ?_
          obtain ⟨dx, t, e, tab, wtab, hp, _⟩ := id (hD.same s1)
          refine ⟨_, rfl, .inl ⟨rfl, _, SqL.of ef⟩, _, rfl, p, dx, _, rfl, hp, f4_no _ _ _ _ (by decide +kernel) (by decide +kernel) (by decide +kernel) (by decide +kernel), _, rfl, _, rfl, _, rfl, _, rfl, _, rfl, _, rfl, (by rw [Tx_len]; exact small1002 (by omega)), ?_⟩
          rw [he]
          have hcut : cutS (Tx wd) (some 0) (some ((wd.length : Nat) : Int)) = Tx wd := by
            have h0 := cut_text wd (s := 0) (t := wd.length) (Nat.zero_le _) (Nat.le_refl _)
            have h1 : sub wd 0 wd.length = wd := by
              unfold sub
              rw [List.drop_zero, Nat.sub_zero, List.take_length]
            rw [h1] at h0
            exact h0
          rw [hcut]
          refine ⟨p, wd, T, X, l, r, rfl, hD.same s1, hF, hlen, fun H3 a W s3 na hW hWl ea => ?_⟩
          refine ⟨a, rfl, ⟨_, SqL.of ea⟩, fun D nD => lc_list (xs := W.map V.int) (fun j H' => Same H3 H' ∧ H' D = some (.lst ((W.take j).map V.int))) ⟨same_upd nD, upd_same⟩ (fun j H' _ p => p.1.seq (SqL.of ea)) ?_ ?_⟩
          · rintro j x H4 hx ⟨s4, eD⟩
            obtain ⟨n, hn, rfl⟩ := ints_at hx
            have hj : j < W.length := (List.getElem?_eq_some_iff.mp hn).1
            refine ⟨rfl, yes (iteT ?_)⟩
            refine ⟨_, rfl, _, rfl, _, _, rfl, rfl, _, eD, ?_, same_put s4 nD, ?_⟩
            · rw [List.length_map, List.length_take]
              exact small1001 (by omega)
            · rw [upd_same, take_snoc hn, List.map_append]
              show some (HO.lst (_ ++ [V.int (0 + n)])) = _
              rw [Int.zero_add]
              rfl
          · rintro H4 ⟨s4, eD⟩
            rw [List.length_map, List.take_of_length_le (Nat.le_refl _)] at eD
            have ef4 := s4 _ _ (s3 _ _ ef)
            refine ⟨f0, D, _, _, rfl, rfl, ef4, eD, ?_, ?_⟩
            · show ([] : List V).length + _ ≤ _
              rw [List.length_map]
              exact small1002 (by show 0 + W.length ≤ _; omega)
            · refine ⟨_, rfl, _, _, rfl, rfl, _, W, _, rfl, same_put (s1.trans (s3.trans s4)) nf, ?_, .inr ⟨by omega, hW⟩⟩
              rw [upd_same]
              rfl
        · have he : i < wd.length := by
            have : i ≠ wd.length := fun z => he (decide_eq_true (by rw [z]))
            omega
          have hc : wd[i]? = some wd[i] := List.getElem?_eq_getElem he
          refine ⟨_, rfl, _, rfl, Tx wd, _, wd[i], rfl, rfl, (by rw [Tx_len]; exact small1002 (by omega)), ?_, wd[i], _, rfl, rfl, _, rfl, ?_⟩
          · show atI wd ((i : Nat) : Int) = some wd[i]
            unfold atI
            rw [ixN_nat he]
            exact hc
          · have hm : wd[i] ∈ (Str.ofString "abcdefghijklmnopqrstuvwxyz").cps.toList := by
              show wd[i] ∈ tl (Str.ofString "abcdefghijklmnopqrstuvwxyz")
              rw [letters_eq]
              have := hLc _ (List.getElem_mem he)
              simp
              omega
            rw [decide_eq_true hm]
            exact iteF ⟨0, [], _, rfl, s1, ef, .inl ⟨he, rfl, rfl⟩⟩
      · omega
    · rintro σ H1 ⟨z, acc, c5, rfl, s1, ef, hc⟩
      rw [Tx_len] at hc
      rcases hc with ⟨hc, _⟩ | ⟨_, hW⟩
      · omega
      · exact ⟨_, rfl, q H1 f0 acc s1 nf hW ef⟩
end
end G
/-! GPO: points. -/
namespace G
open PySem PySem.Spec PyProof.Rows L2 TL GM
abbrev nPO : List Str := ["hyphens", "word"]
theorem scPO : FnScope nPO ["hyphens", "word"] (defScope sPO) := ⟨rfl, rfl, rfl, by decide +kernel, rfl, by decide +kernel, by decide +kernel⟩
def spPO (K : PySem.W.Frag) : Sp := fun vs H Q _ => ∃ (hy : Addr) (w : List Nat) (T : Tab) (X : List (List (List Nat))) (l r : Int), vs = [.ref hy, .str (Tx w)] ∧ LangAt K H hy T X l r ∧ Fit T X ∧ w.length ≤ 1000 ∧ Lc w ∧
  ∀ H' a W, Same H H' → H a = none → WPT T X l r w W → H' a = some (.lst (W.map V.int)) → Q (.ref a) H'
section
variable {P : Program} {w : World} {K : PySem.W.Frag} {mg : Str → Option Value} {base : Heap}
theorem ok_PO {f fI fP C : Addr} {fd fdI fdP : FuncData} (F : Fun K "points" "points" sPO f fd) (B : Bi mg) (C0 : Cl K mg C) (M : Mk K C fI) (GI : FnOk P w K mg base CX0 3 fI fdI ["self", "hyphens"] (spDI K C)) (bI : Binds K fdI ["self", "hyphens"] [])
    (GP : FnOk P w K mg base CX0 3 fP fdP ["self", "word"] (spDP C)) (mP : Meth K C "points" fP) (bP : Binds K fdP ["self", "word"] []) :
    FnOk P w K mg base CX0 5 f fd ["hyphens", "word"] (spPO K) := by
  refine F.ok scPO (fun vs H Q E h => ?_) (fun cdv A outer s H vs Q E hr h => ?_)
  · obtain ⟨hy, wd, T, X, l, r, rfl, _⟩ := h
    rfl
  · obtain ⟨hy, wd, T, X, l, r, rfl, hL, hF, hlen, hLc, q⟩ := h
    have hr3 : Room 3 _ := hr.mono (by decide)
    refine ⟨_, pss_one (ps_ret (pe_meth (pe_make M GI hr (by rfl) C0.mgC bI .nil pass0 (pa_cons (pv 0) pa_nil)) C0.cl mP GP hr3 bP .nil pass0 (pa_cons (pv 1) pa_nil))), ?_⟩
    refine ⟨_, rfl, fun x dx nx ndx nex => ?_⟩
    have s0 : Same H (upd (upd H dx (.own x)) x (.ins C dx [])) := fun b o e => by
      rw [upd_ne (ne_of_none e nx), upd_ne (ne_of_none e ndx)]
      exact e
    refine ⟨x, dx, hy, T, X, l, r, rfl, upd_same, hL.same s0, fun H1 sx hD => ⟨rfl, ?_⟩⟩
    have s1 : Same H H1 := Same.made nx ndx sx
    obtain ⟨dy, t, e, tab, wtab, hp, _⟩ := id hD
    refine ⟨x, dy, _, rfl, hp, f4_no _ _ _ _ (by decide +kernel) (by decide +kernel) (by decide +kernel) (by decide +kernel), _, rfl, x, wd, T, X, l, r, rfl, hD, hF, hlen, hLc, fun H2 a W s2 na hW ea => ?_⟩
    exact q H2 a W (s1.trans s2) (s1.free na) hW ea
end
end G
/-! GLP: _law_parts, _law_pick. -/
namespace G
open PySem PySem.Spec PyProof.Rows L2 TL GM
theorem scLP : FnScope ["_law_pattern_here", "_law_signs_here", "_law_numbers_here", "_law_char"] ["_law_pattern_here"] (defScope sLP) := ⟨rfl, rfl, rfl, by decide +kernel, rfl, by decide +kernel, by decide +kernel⟩
/-- a text that reads is taken apart: a new list of its signs and a new list of its numbers -/
def spLP : Sp := fun vs H Q _ => ∃ (l sg : List Nat) (ns : List Int), vs = [.str (Tx l)] ∧ l.length ≤ 1000 ∧ Reads l sg ns ∧
  ∀ H' t n, Same H H' → H t = none → H n = none → H' t = some (.lst [.str (Tx sg), .ref n]) → H' n = some (.lst (ns.map V.int)) → Q (.ref t) H'
section
variable {P : Program} {w : World} {K : PySem.W.Frag} {mg : Str → Option Value} {base : Heap}
theorem ok_LP {f : Addr} {fd : FuncData} {k : Nat} (F : Fun K "_law_parts" "_law_parts" sLP f fd) (B : Bi mg) : FnOk P w K mg base CX0 (k + 1) f fd ["_law_pattern_here"] spLP := by
  refine F.ok scLP (fun vs H Q E h => ?_) (fun cdv A outer s H vs Q E hr h => ?_)
  · obtain ⟨l, sg, ns, rfl, _⟩ := h
    rfl
  · obtain ⟨l, sg, ns, rfl, hlen, ⟨fr, hf⟩, q⟩ := h
    refine ⟨_, pss_cons (ps_set (i := 1) scLP.nd rfl (.inl rfl) pe_str)
      (pss_cons (ps_set (i := 2) scLP.nd rfl (.inl rfl) (pe_lst (pa_cons pe_int pa_nil)))
      (pss_cons (ps_for PassesOwn.never rfl (pi_str (pv 0)) (pg_name (i := 3) scLP.nd rfl (.inl rfl))
        (pss_one (ps_if (pt_cmpR op_in_sign (pv 3) pe_str (by rfl))
          (pss_one (ps_asg (pe_callTy call_int_str (by rfl) B.int (by decide +kernel) (pa_cons (pv 3) pa_nil)) (pg_sub (pv 2) (pe_op op_sub (pe_callB call_len_seq (by rfl) B.len PySem.boot_len (pa_cons (pv 2) pa_nil)) pe_int) set_list)))
          (pss_cons (ps_set (i := 1) scLP.nd rfl (.inl rfl) (pe_op op_add_str (pv 1) (pv 3)))
          (pss_one (ps_expr (pe_bm PySem.F.plainAttrs_list PySem.F.slot_list_append PySem.F.type_list_append mt_append (pv 2) (pa_cons pe_int pa_nil))))))))
      (pss_one (ps_ret (pe_lst (pa_cons (pv 1) (pa_cons (pv 2) pa_nil))))))), ?_⟩
    refine ⟨(by show 1 ≤ sizeLine; decide), fun n nn => ?_⟩
    refine ⟨_, rfl, _, rfl, for_it walk_str (fun i σ H' => ∃ (sg' : List Nat) (ns' : List Int) (f' : Bool) (c : Option V), σ = [some (.str (Tx l)), some (.str (Tx sg')), some (.ref n), c] ∧ Same H H' ∧
        H' n = some (.lst (ns'.map V.int)) ∧ pfold (l.drop i) (sg', ns', f') = some (sg, ns, fr) ∧ sg'.length ≤ i ∧ ns'.length ≤ i + 1 ∧ 1 ≤ ns'.length)
      ⟨[], [0], true, none, by rw [← empty_eq]; rfl, same_upd nn, upd_same, hf, Nat.le_refl _, Nat.le_refl _, Nat.le_refl _⟩ (fun _ _ _ _ _ => trivial) ?_ ?_⟩
    · rintro i x σ H1 H2 hi ⟨sg', ns', f', c0, rfl, sm, en, hp, l1, l2, l3⟩ ⟨rfl, c, hc, rfl⟩
      rw [Tx_size] at hi
      rw [Tx_get] at hc
      obtain ⟨st, e1, e2⟩ := pfold_drop hc hp
      refine ⟨_, rfl, c, _, rfl, rfl, _, rfl, ite2 (fun hd => ?_) (fun hd => ?_)⟩
      · have hd : c ∈ figs := by
          have := of_decide_eq_true hd
          rw [← figs_eq]
          exact this
        obtain ⟨rfl, rfl⟩ := pstep_fig hd e1
        refine ⟨_, rfl, _, _, rfl, int_fig hd, (by show 1 ≤ 640; decide), ?_⟩
        refine ⟨_, rfl, _, rfl, n, _, rfl, .inl (SqL.of en), _, _, rfl, rfl, n, _, _, ns'.length - 1, rfl, rfl, en, ?_, ?_⟩
        · rw [List.length_map]
          rw [show ((ns'.length : Nat) : Int) - 1 = ((ns'.length - 1 : Nat) : Int) by omega]
          exact ixN_nat (by omega)
        · refine ⟨sg', ns'.set (ns'.length - 1) ((c : Int) - 48), false, _, rfl, same_put sm nn, ?_, e2, by omega, ?_, ?_⟩
          · rw [upd_same, List.map_set]
          · rw [List.length_set]
            omega
          · rw [List.length_set]
            exact l3
      · have hd : ¬ c ∈ figs := fun z => hd (decide_eq_true (by rw [← figs_eq] at z; exact z))
        obtain rfl := pstep_sign hd e1
        refine ⟨_, rfl, _, rfl, _, _, rfl, rfl, ?_, ?_⟩
        · rw [Tx_one, Tx_len, Tx_len]
          exact Nat.le_of_lt (small1000 (by show sg'.length + 1 ≤ 1000; omega))
        · refine ⟨_, rfl, .inl ⟨rfl, _, SqL.of en⟩, n, _, _, rfl, rfl, en, ?_, ?_⟩
          · rw [List.length_map]
            exact small1001 (by omega)
          · refine ⟨sg' ++ [c], ns' ++ [0], true, some (.str ⟨#[c]⟩), ?_, same_put sm nn, ?_, e2, ?_, ?_, ?_⟩
            · rw [Tx_one, Tx_app]
              rfl
            · rw [upd_same, List.map_append]
              rfl
            · rw [List.length_append]
              exact Nat.succ_le_succ l1
            · rw [List.length_append]
              exact Nat.succ_le_succ l2
            · rw [List.length_append]
              omega
    · rintro σ H1 ⟨sg', ns', f', c0, rfl, sm, en, hp, l1, l2, l3⟩
      rw [Tx_size] at hp
      rw [List.drop_of_length_le (Nat.le_refl _)] at hp
      cases hp
      refine ⟨_, rfl, _, rfl, (by show 2 ≤ sizeLine; decide), fun t nt => ?_⟩
      refine q _ t n (sm.trans (same_upd nt)) (sm.free nt) nn upd_same ?_
      rw [upd_ne (ne_of_none en nt)]
      exact en

/-! ### _law_pick -/
/-- the feed: a list of ints -/
def FeedAt (a : Addr) (H : Hp) : Prop := ∃ ns : List Int, H a = some (.lst (ns.map V.int))
/-- behind: all but the feed stands, the feed is a list of ints -/
def Feed (a : Addr) (H H' : Hp) : Prop := SameX a H H' ∧ FeedAt a H'
theorem Feed.refl {a : Addr} {H : Hp} (h : FeedAt a H) : Feed a H H := ⟨SameX.refl a H, h⟩
theorem Feed.trans {a : Addr} {H H1 H2 : Hp} (x : Feed a H H1) (y : Feed a H1 H2) : Feed a H H2 := ⟨x.1.trans y.1, y.2⟩
theorem Feed.free {a : Addr} {H H' : Hp} (x : Feed a H H') {p : Addr} (h : H' p = none) : H p = none := x.1.free (by obtain ⟨ns, e⟩ := x.2; rw [e]; simp) h
theorem FeedAt.ne {a : Addr} {H : Hp} (h : FeedAt a H) {p : Addr} (e : H p = none) : p ≠ a := fun z => by
  obtain ⟨ns, f⟩ := h
  rw [z, f] at e
  cases e
/-- something new is laid -/
theorem Feed.laid {a : Addr} {H H' : Hp} (x : Feed a H H') {p : Addr} (h : H' p = none) (o : HO) : Feed a H (upd H' p o) := by
  refine ⟨x.1.put (x.free h) o, ?_⟩
  obtain ⟨ns, e⟩ := x.2
  exact ⟨ns, by rw [upd_ne (ne_of_none e h)]; exact e⟩
/-- something that was new is written -/
theorem Feed.put {a : Addr} {H H' : Hp} (x : Feed a H H') {p : Addr} (h : H p = none) (n : p ≠ a) (o : HO) : Feed a H (upd H' p o) := by
  refine ⟨x.1.put h o, ?_⟩
  obtain ⟨ns, e⟩ := x.2
  exact ⟨ns, by rw [upd_ne n.symm]; exact e⟩
theorem scLK : FnScope ["_law_feed", "_law_many"] ["_law_feed", "_law_many"] (defScope sLK) := ⟨rfl, rfl, rfl, by decide +kernel, rfl, by decide +kernel, by decide +kernel⟩
def spLK : Sp := fun vs H Q _ => ∃ (a : Addr) (m : Int), vs = [.ref a, .int m] ∧ FeedAt a H ∧ 0 < m ∧ ∀ H' r, Feed a H H' → 0 ≤ r → r < m → Q (.int r) H'
theorem ok_LK {f : Addr} {fd : FuncData} {k : Nat} (F : Fun K "_law_pick" "_law_pick" sLK f fd) (B : Bi mg) : FnOk P w K mg base CX0 (k + 1) f fd ["_law_feed", "_law_many"] spLK := by
  refine F.ok scLK (fun vs H Q E h => ?_) (fun cdv A outer s H vs Q E hr h => ?_)
  · obtain ⟨a, m, rfl, _⟩ := h
    rfl
  · obtain ⟨a, m, rfl, ⟨ns, ea⟩, hm, q⟩ := h
    refine ⟨_, pss_cons (ps_if (pt_cmpR op_eq (pe_callB call_len_seq (by rfl) B.len PySem.boot_len (pa_cons (pv 0) pa_nil)) pe_int (nomark _)) (pss_one (ps_ret pe_int)) pss_nil)
      (pss_one (ps_ret (pe_op op_mod (pe_callTy call_int1 (by rfl) B.int (by decide +kernel) (pa_cons (pe_bm0 PySem.F.plainAttrs_list PySem.F.slot_list_pop PySem.F.type_list_pop mt_pop (pv 0)) pa_nil)) (pv 1)))), ?_⟩
    refine ⟨_, rfl, a, _, rfl, .inl (SqL.of ea), rfl, _, rfl, ite2 (fun hz => ?_) (fun hz => ?_)⟩
    · exact q _ 0 (Feed.refl ⟨ns, ea⟩) (Int.le_refl 0) hm
    · have hn : ns ≠ [] := fun z => by
        subst z
        exact hz (decide_eq_true rfl)
      obtain ⟨x, hx⟩ : ∃ x, ns[ns.length - 1]? = some x := by
        have : ns.length ≠ 0 := fun z => hn (List.length_eq_zero_iff.mp z)
        exact ⟨_, List.getElem?_eq_getElem (by omega)⟩
      refine ⟨_, rfl, .inl ⟨rfl, _, SqL.of ea⟩, a, _, .int x, rfl, rfl, ea, ?_, .inl ⟨x, rfl, _, rfl, _, _, rfl, rfl, hm, ?_⟩⟩
      · rw [List.length_map, List.getElem?_map, hx]
        rfl
      · refine q _ _ ⟨(SameX.refl a H).upd _, ns.dropLast, ?_⟩ (Int.emod_nonneg _ (by omega)) (Int.emod_lt_of_pos _ hm)
        rw [upd_same, List.map_dropLast]
end
end G
/-! GLN: _law_numbers. -/
namespace G
open PySem PySem.Spec PyProof.Rows L2 TL GM
theorem cut_ints (ns : List Int) (lo hi : Option Int) : ∃ ms : List Int, cutV (ns.map V.int) lo hi = ms.map V.int ∧ ms.length ≤ ns.length := by
  refine ⟨(ns.drop (HT.sIx (ns.map V.int).length 0 lo)).take (HT.sIx (ns.map V.int).length (ns.map V.int).length hi - HT.sIx (ns.map V.int).length 0 lo), ?_, ?_⟩
  · unfold cutV
    rw [← List.map_drop, ← List.map_take]
  · rw [List.length_take, List.length_drop]
    omega
abbrev nLN : List Str := ["_law_script", "_law_row", "_law_cell", "_law_k", "_law_seed"]
theorem scLN : FnScope nLN ["_law_script"] (defScope sLN) := ⟨rfl, rfl, rfl, by decide +kernel, rfl, by decide +kernel, by decide +kernel⟩
def spLN (K : PySem.W.Frag) : Sp := fun vs H Q _ => ∃ (a : Addr) (ns : List Int), vs = [.ref a] ∧ SqL K H a (ns.map V.int) ∧ ns.length ≤ 63 ∧ ∀ H' f, Same H H' → H f = none → FeedAt f H' → Q (.ref f) H'
section
variable {P : Program} {w : World} {K : PySem.W.Frag} {mg : Str → Option Value} {base : Heap}
theorem ok_LN {f : Addr} {fd : FuncData} {k : Nat} (F : Fun K "_law_numbers" "_law_numbers" sLN f fd) (B : Bi mg) : FnOk P w K mg base CX0 (k + 1) f fd ["_law_script"] (spLN K) := by
  refine F.ok scLN (fun vs H Q E h => ?_) (fun cdv A outer s H vs Q E hr h => ?_)
  · obtain ⟨a, ns, rfl, _⟩ := h
    rfl
  · obtain ⟨a, ns, rfl, hS, hlen, q⟩ := h
    refine ⟨_, pss_cons (ps_set (i := 1) scLN.nd rfl (.inl rfl) (pe_lst pa_nil))
      (pss_cons (ps_for PassesOwn.never rfl (pi_list (pe_slice sl_list (pv 0) po_none (po_some pe_int))) (pg_name (i := 2) scLN.nd rfl (.inl rfl))
        (pss_one (ps_if (pt_cmpR op_ge (pv 2) (pe_op op_pow pe_int pe_int) (nomark _))
          (pss_one (ps_for PassesOwn.never rfl (pi_range1 (by rfl) B.range (pa_cons pe_int pa_nil)) (pg_name (i := 3) scLN.nd rfl (.inl rfl))
            (pss_one (ps_if (pt_cmpR op_gt (pv 2) pe_int (nomark _))
              (pss_cons (ps_expr (pe_bm PySem.F.plainAttrs_list PySem.F.slot_list_append PySem.F.type_list_append mt_append (pv 1) (pa_cons (pe_op op_mod (pe_callTy call_int1 (by rfl) B.int (by decide +kernel) (pa_cons (pv 2) pa_nil)) pe_int) pa_nil)))
              (pss_one (ps_set (i := 2) scLN.nd rfl (.inl rfl) (pe_op op_fdiv (pv 2) pe_int)))) pss_nil))))
          (pss_cons (ps_set (i := 4) scLN.nd rfl (.inl rfl) (pe_op op_mod (pe_callTy call_int1 (by rfl) B.int (by decide +kernel) (pa_cons (pe_op op_add (pe_op op_mul (pv 2) pe_int) pe_int) pa_nil)) pe_int))
          (pss_one (ps_for PassesOwn.never rfl (pi_range1 (by rfl) B.range (pa_cons pe_int pa_nil)) (pg_name (i := 3) scLN.nd rfl (.inl rfl))
            (pss_cons (ps_set (i := 4) scLN.nd rfl (.inl rfl) (pe_op op_mod (pe_callTy call_int1 (by rfl) B.int (by decide +kernel) (pa_cons (pe_op op_add (pe_op op_add (pe_op op_mul (pv 4) pe_int) (pe_op op_mul pe_int (pv 3))) pe_int) pa_nil)) pe_int))
            (pss_one (ps_expr (pe_bm PySem.F.plainAttrs_list PySem.F.slot_list_append PySem.F.type_list_append mt_append (pv 1) (pa_cons (pe_op op_mod (pe_callTy call_int1 (by rfl) B.int (by decide +kernel)
              (pa_cons (pe_op op_add (pe_op op_mul (pe_op op_mod (pe_callTy call_int1 (by rfl) B.int (by decide +kernel) (pa_cons (pv 4) pa_nil)) pe_int) pe_int) (pe_op op_fdiv (pv 4) pe_int)) pa_nil)) pe_int) pa_nil)))))))))))
      (pss_cons (ps_set (i := 1) scLN.nd rfl (.inl rfl) (pe_slice sl_list (pv 1) po_none (po_some pe_int)))
      (pss_cons (ps_expr (pe_bm0 PySem.F.plainAttrs_list PySem.F.slot_list_reverse PySem.F.type_list_reverse mt_reverse (pv 1)))
      (pss_one (ps_ret (pv 1)))))), ?_⟩
    refine ⟨Nat.zero_le _, fun f nf => ?_⟩
    have s1 : Same H (upd H f (.lst [])) := same_upd nf
    refine ⟨_, rfl, 63, rfl, a, _, rfl, s1.seq hS, fun c nc => ?_⟩
    obtain ⟨ms, em, lm⟩ := cut_ints ns none (some 63)
    rw [em]
    have ncf : c ≠ f := fun z => by
      rw [z, upd_same] at nc
      cases nc
    have nc0 : H c = none := by
      rw [upd_ne ncf] at nc
      exact nc
    refine ⟨c, rfl, ⟨_, SqL.of upd_same⟩, for_list (K := K) (a := c) (xs := ms.map V.int) (fun i σ H' => ∃ (row : List Int) (c2 c3 c4 : Option V), σ = [some (.ref a), some (.ref f), c2, c3, c4] ∧ Same H H' ∧
        H' c = some (.lst (ms.map V.int)) ∧ H' f = some (.lst (row.map V.int)) ∧ row.length ≤ 60 * i)
      ⟨[], none, none, none, rfl, s1.trans (same_upd nc), upd_same, by rw [upd_ne ncf.symm, upd_same]; rfl, Nat.le_refl _⟩ (fun i σ H' _ ⟨_, _, _, _, _, _, ec, _⟩ => SqL.of ec) ?_ ?_⟩
    · rintro i x σ H1 hx ⟨row, c2, c3, c4, rfl, s2, ec, ef, hl⟩
      obtain ⟨n, hn, rfl⟩ := ints_at hx
      have hi : i < 63 := by
        have := (List.getElem?_eq_some_iff.mp hn).1
        omega
      refine ⟨_, rfl, _, _, rfl, rfl, ⟨by decide, by decide, by decide⟩, _, _, rfl, rfl, _, rfl, ite2 (fun _ => ?_) (fun _ => ?_)⟩
      · refine ⟨60, rfl, by decide, by decide, for_it walk_rng0 (fun j σ H' => ∃ (row : List Int) (z : Int) (c3 c4 : Option V), σ = [some (.ref a), some (.ref f), some (.int z), c3, c4] ∧ Same H H' ∧
            H' c = some (.lst (ms.map V.int)) ∧ H' f = some (.lst (row.map V.int)) ∧ row.length ≤ 60 * i + j)
          ⟨row, n, c3, c4, rfl, s2, ec, ef, hl⟩ (fun _ _ _ _ _ => trivial) ?_ ?_⟩
        · rintro j x σ H2 H3 hj ⟨row, z, c3, c4, rfl, s3, ec, ef, hl⟩ ⟨rfl, rfl⟩
          have hj : j < 60 := hj
          refine ⟨_, rfl, _, _, rfl, rfl, _, rfl, ite2 (fun _ => ?_) (fun _ => ?_)⟩
          · refine ⟨_, rfl, .inl ⟨rfl, _, SqL.of ef⟩, _, rfl, .inl ⟨_, rfl, _, _, rfl, rfl, (by show (0 : Int) < 1000; decide), f, _, _, rfl, rfl, ef, ?_, ?_⟩⟩
            · rw [List.length_map]
              exact small1001 (by omega)
            · refine ⟨_, rfl, _, _, rfl, rfl, ⟨by decide, by decide⟩, row ++ [z % 1000], z / 1000, _, c4, rfl, same_put s3 nf, ?_, ?_, ?_⟩
              · rw [upd_ne ncf]
                exact ec
              · rw [upd_same, List.map_append]
                rfl
              · rw [List.length_append]
                show row.length + 1 ≤ _
                omega
          · exact ⟨row, z, _, c4, rfl, s3, ec, ef, by omega⟩
        · rintro σ H2 ⟨row, z, c3, c4, rfl, s3, ec, ef, hl⟩
          refine ⟨row, _, c3, c4, rfl, s3, ec, ef, ?_⟩
          have hl : row.length ≤ 60 * i + 60 := hl
          omega
      · refine ⟨_, rfl, _, _, rfl, rfl, .inr (by decide), _, _, rfl, rfl, .inl ⟨_, rfl, _, _, rfl, rfl, (by show (0 : Int) < 2147483647; decide), ?_⟩⟩
        refine ⟨9, rfl, by decide, by decide, for_it walk_rng0 (fun j σ H' => ∃ (row : List Int) (z : Int) (c2 c3 : Option V), σ = [some (.ref a), some (.ref f), c2, c3, some (.int z)] ∧ Same H H' ∧
            H' c = some (.lst (ms.map V.int)) ∧ H' f = some (.lst (row.map V.int)) ∧ row.length ≤ 60 * i + j)
          ⟨row, _, _, c3, rfl, s2, ec, ef, hl⟩ (fun _ _ _ _ _ => trivial) ?_ ?_⟩
        · rintro j x σ H2 H3 hj ⟨row, z, c2, c3, rfl, s3, ec, ef, hl⟩ ⟨rfl, rfl⟩
          have hj : j < 9 := hj
          refine ⟨_, rfl, _, _, rfl, rfl, .inr (by decide), _, rfl, _, _, rfl, rfl, .inl (by decide), _, _, rfl, rfl, _, _, rfl, rfl, .inl ⟨_, rfl, _, _, rfl, rfl, (by show (0 : Int) < 2147483647; decide), ?_⟩⟩
          refine ⟨_, rfl, .inl ⟨rfl, _, SqL.of ef⟩, _, rfl, .inl ⟨_, rfl, _, _, rfl, rfl, (by show (0 : Int) < 1000003; decide), _, _, rfl, rfl, .inr (by decide), _, rfl, _, _, rfl, rfl, ⟨by decide, by decide⟩, _, _, rfl, rfl,
            .inl ⟨_, rfl, _, _, rfl, rfl, (by show (0 : Int) < 1000; decide), f, _, _, rfl, rfl, ef, ?_, ?_⟩⟩⟩
          · rw [List.length_map]
            exact small1001 (by omega)
          · refine ⟨row ++ [((z * 69621 + 7 * (j : Int) + 1) % 2147483647 % 1000003 * 7919 + (z * 69621 + 7 * (j : Int) + 1) % 2147483647 / 1009) % 1000], _, c2, _, rfl, same_put s3 nf, ?_, ?_, ?_⟩
            · rw [upd_ne ncf]
              exact ec
            · rw [upd_same, List.map_append]
              rfl
            · rw [List.length_append]
              show row.length + 1 ≤ _
              omega
        · rintro σ H2 ⟨row, z, c2, c3, rfl, s3, ec, ef, hl⟩
          refine ⟨row, c2, c3, _, rfl, s3, ec, ef, ?_⟩
          have hl : row.length ≤ 60 * i + 9 := hl
          omega
    · rintro σ H1 ⟨row, c2, c3, c4, rfl, s2, ec, ef, hl⟩
      refine ⟨_, rfl, 300, rfl, f, _, rfl, SqL.of ef, fun g ng => ?_⟩
      obtain ⟨ks, ek, lk⟩ := cut_ints row none (some 300)
      rw [ek]
      have ng0 : H g = none := s2.free ng
      refine ⟨_, rfl, .inl ⟨rfl, _, SqL.of upd_same⟩, g, _, rfl, rfl, upd_same, ?_⟩
      refine ⟨_, rfl, q _ g (same_put (s2.trans (same_upd ng)) ng0) ng0 ⟨ks.reverse, ?_⟩⟩
      rw [upd_same, List.map_reverse]
end
end G
/-! GLG: _law_signs. -/
namespace G
open PySem PySem.Spec PyProof.Rows L2 TL GM
theorem abc_eq : tl ("abcab" : Str) = [97, 98, 99, 97, 98] := by decide +kernel
theorem abc_at {r : Int} (h0 : 0 ≤ r) (h5 : r < 5) : ∃ c, atI (Str.ofString "abcab").cps.toList r = some c ∧ 97 ≤ c ∧ c ≤ 99 := by
  show ∃ c, atI (tl (Str.ofString "abcab")) r = some c ∧ _
  rw [abc_eq]
  have h : r = 0 ∨ r = 1 ∨ r = 2 ∨ r = 3 ∨ r = 4 := by omega
  rcases h with rfl | rfl | rfl | rfl | rfl
  · exact ⟨97, rfl, by omega, by omega⟩
  · exact ⟨98, rfl, by omega, by omega⟩
  · exact ⟨99, rfl, by omega, by omega⟩
  · exact ⟨97, rfl, by omega, by omega⟩
  · exact ⟨98, rfl, by omega, by omega⟩
/-- single letters -/
def Ones (n : Nat) (ps : List (List Nat)) : Prop := ps.length = n ∧ ∀ p ∈ ps, p.length = 1 ∧ Lc p
theorem Ones.nil : Ones 0 [] := ⟨rfl, fun _ h => by simp at h⟩
theorem Ones.snoc {n : Nat} {ps : List (List Nat)} (h : Ones n ps) {c : Nat} (h1 : 97 ≤ c) (h2 : c ≤ 99) : Ones (n + 1) (ps ++ [[c]]) := by
  refine ⟨by rw [List.length_append, h.1]; rfl, fun p hp => ?_⟩
  rcases List.mem_append.mp hp with hp | hp
  · exact h.2 p hp
  · rw [List.mem_singleton.mp hp]
    exact ⟨rfl, fun x hx => by rw [List.mem_singleton.mp hx]; exact ⟨h1, h2⟩⟩
theorem ones_flat : ∀ (ps : List (List Nat)), (∀ p ∈ ps, p.length = 1 ∧ Lc p) → ps.flatten.length = ps.length ∧ Lc ps.flatten
  | [], _ => ⟨rfl, fun c h => by simp at h⟩
  | p :: r, h => by
    obtain ⟨e, l⟩ := ones_flat r fun q hq => h q (List.mem_cons_of_mem _ hq)
    obtain ⟨e1, l1⟩ := h p List.mem_cons_self
    refine ⟨by rw [List.flatten_cons, List.length_append, e, e1, List.length_cons]; omega, fun c hc => ?_⟩
    rw [List.flatten_cons] at hc
    rcases List.mem_append.mp hc with hc | hc
    · exact l1 c hc
    · exact l c hc
theorem Ones.flat {n : Nat} {ps : List (List Nat)} (h : Ones n ps) : ps.flatten.length = n ∧ Lc ps.flatten := by
  obtain ⟨e, l⟩ := ones_flat ps h.2
  exact ⟨e.trans h.1, l⟩
theorem Ones.sizes {n : Nat} {ps : List (List Nat)} (h : Ones n ps) (hn : n ≤ 1000) : ((ps.map Tx).map (·.length)).sum + (ps.map Tx).length * (Str.ofString "").length ≤ 16777216 := by
  rw [lens_sum, empty_eq, Tx_len, h.flat.1]
  show n + _ * 0 ≤ _
  omega
/-- signs of a pattern: letters and dots -/
def Sg (c : Nat) : Prop := c = 46 ∨ (97 ≤ c ∧ c ≤ 99)
def SgOk (sg : List Nat) : Prop := 1 ≤ sg.length ∧ sg.length ≤ 6 ∧ ∀ c ∈ sg, Sg c
abbrev nLG : List Str := ["_law_feed", "_law_signs_here", "_law_kind", "_law_k"]
theorem scLG : FnScope nLG ["_law_feed"] (defScope sLG) := ⟨rfl, rfl, rfl, by decide +kernel, rfl, by decide +kernel, by decide +kernel⟩
def spLG : Sp := fun vs H Q _ => ∃ (a : Addr), vs = [.ref a] ∧ FeedAt a H ∧ ∀ H' sg, Feed a H H' → SgOk sg → Q (.str (Tx sg)) H'
section
variable {P : Program} {w : World} {K : PySem.W.Frag} {mg : Str → Option Value} {base : Heap}
theorem ok_LG {f fK : Addr} {fd fdK : FuncData} (F : Fun K "_law_signs" "_law_signs" sLG f fd) (B : Bi mg) (GK : FnOk P w K mg base CX0 1 fK fdK ["_law_feed", "_law_many"] spLK) (kK : PySem.W.keepIn K (.ref fK) = true) (bK : Binds K fdK ["_law_feed", "_law_many"] []) (gK : mg "_law_pick" = some (.ref fK)) :
    FnOk P w K mg base CX0 2 f fd ["_law_feed"] spLG := by
  refine F.ok scLG (fun vs H Q E h => ?_) (fun cdv A outer s H vs Q E hr h => ?_)
  · obtain ⟨a, rfl, _⟩ := h
    rfl
  · obtain ⟨a, rfl, hA, q⟩ := h
    refine ⟨_, pss_cons (ps_set (i := 1) scLG.nd rfl (.inl rfl) (pe_join pe_str (pe_lc (own := [("_law_k", 3)]) (g := gName 3) (tt := tYes) rfl scLG.nd
          (pi_range1 (by rfl) B.range (pa_cons (pe_op op_add pe_int (pe_call GK hr (by rfl) gK kK bK .nil pass0 (pa_cons (pv 0) (pa_cons pe_int pa_nil)))) pa_nil))
          (blkOk_by (own := [("_law_k", 3)]) (N := nLG) (sc := defScope sLG) (by decide +kernel))
          (fun _ _ _ _ _ => pg_name (i := 3) scLG.nd rfl (Or.inl rfl)) (fun _ _ _ _ _ => pts_nil)
          (fun _ _ _ _ _ => pe_ix ix_str pe_str (pe_call GK hr (by rfl) gK kK bK .nil pass0 (pa_cons (pv 0) (pa_cons pe_int pa_nil))) (fun _ _ => rfl)))))
      (pss_cons (ps_set (i := 2) scLG.nd rfl (.inl rfl) (pe_call GK hr (by rfl) gK kK bK .nil pass0 (pa_cons (pv 0) (pa_cons pe_int pa_nil))))
      (pss_cons (ps_if (pt_cmpR op_eq (pv 2) pe_int (nomark _)) (pss_one (ps_set (i := 1) scLG.nd rfl (.inl rfl) (pe_op op_add_str pe_str (pv 1)))) pss_nil)
      (pss_cons (ps_if (pt_cmpR op_eq (pv 2) pe_int (nomark _)) (pss_one (ps_set (i := 1) scLG.nd rfl (.inl rfl) (pe_op op_add_str (pv 1) pe_str))) pss_nil)
      (pss_cons (ps_if (pt_cmpR op_eq (pv 2) pe_int (nomark _)) (pss_one (ps_set (i := 1) scLG.nd rfl (.inl rfl) (pe_op op_add_str (pe_op op_add_str pe_str (pv 1)) pe_str))) pss_nil)
      (pss_one (ps_ret (pv 1))))))), ?_⟩
    refine ⟨⟨_, rfl⟩, _, rfl, a, 4, rfl, hA, (by decide), fun H1 r x1 r0 r4 => ?_⟩
    refine ⟨_, _, rfl, rfl, _, rfl, (by omega), (by omega), fun D nD => ?_⟩
    have nDa : D ≠ a := x1.2.ne nD
    refine lc_it walk_rng0 (fun i H' => Feed a H1 H' ∧ ∃ ps, H' D = some (.lst (SL ps)) ∧ Ones i ps) ⟨(Feed.refl x1.2).put nD nDa _, [], upd_same, Ones.nil⟩ (fun _ _ _ _ => trivial) ?_ ?_
    · rintro i x H2 H3 hi ⟨x2, ps, eD, ho⟩ ⟨rfl, rfl⟩
      refine ⟨rfl, yes (iteT ?_)⟩
      refine ⟨_, rfl, a, 5, rfl, x2.2, (by decide), fun H4 r' x4 r0' r5 => ?_⟩
      obtain ⟨c, hc, c1, c2⟩ := abc_at r0' r5
      refine ⟨_, _, c, rfl, rfl, (by decide +kernel), hc, _, x4.1 _ _ eD nDa, ?_, (x2.trans x4).put nD nDa _, ps ++ [[c]], ?_, ho.snoc c1 c2⟩
      · rw [SL_len, ho.1]
        exact small1001 (by omega)
      · rw [upd_same, SL_app]
        rfl
    · rintro H2 ⟨x2, ps, eD, ho⟩
      refine ⟨_, D, ps.map Tx, rfl, rfl, .inl (SqL.of eD), ho.sizes (by omega), ?_⟩
      rw [join_empty]
      obtain ⟨hl, hL⟩ := ho.flat
      have h1 : 1 ≤ ps.flatten.length := by omega
      have h4 : ps.flatten.length ≤ 4 := by omega
      revert h1 h4 hL
      generalize ps.flatten = sg
      intro hL h1 h4
      have hS : ∀ c ∈ sg, Sg c := fun c hc => .inr (hL c hc)
      refine ⟨_, rfl, a, 5, rfl, x2.2, (by decide), fun H3 kd x3 k0 k5 => ?_⟩
      have xx : Feed a H H3 := x1.trans (x2.trans x3)
      have sd : ∀ c ∈ [46], Sg c := fun c hc => .inl (List.mem_singleton.mp hc)
      have dot1 : ∀ l : List Nat, (∀ c ∈ l, Sg c) → ∀ c ∈ [46] ++ l, Sg c := fun l h c hc => (List.mem_append.mp hc).elim (sd c) (h c)
      have dot2 : ∀ l : List Nat, (∀ c ∈ l, Sg c) → ∀ c ∈ l ++ [46], Sg c := fun l h c hc => (List.mem_append.mp hc).elim (h c) (sd c)
      refine ⟨_, rfl, rfl, _, rfl, ite2 (fun e1 => ?_) (fun e1 => ?_)⟩
      · have e1 : kd = 1 := V.int.inj (of_decide_eq_true e1)
        subst e1
        refine ⟨_, rfl, _, _, rfl, rfl, ?_, ?_⟩
        · rw [dot_eq, Tx_len, Tx_len]
          exact small1002 (by show 1 + sg.length ≤ _; omega)
        rw [dot_eq, Tx_app]
        refine ⟨_, rfl, rfl, _, rfl, iteF ?_⟩
        refine ⟨_, rfl, rfl, _, rfl, iteF ?_⟩
        exact ⟨_, rfl, q H3 _ xx ⟨by rw [List.length_append]; show 1 ≤ 1 + sg.length; omega, by rw [List.length_append]; show 1 + sg.length ≤ 6; omega, dot1 sg hS⟩⟩
      · refine ⟨_, rfl, rfl, _, rfl, ite2 (fun e2 => ?_) (fun e2 => ?_)⟩
        · have e2 : kd = 2 := V.int.inj (of_decide_eq_true e2)
          subst e2
          refine ⟨_, rfl, _, _, rfl, rfl, ?_, ?_⟩
          · rw [dot_eq, Tx_len, Tx_len]
            exact small1002 (by show sg.length + 1 ≤ _; omega)
          rw [dot_eq, Tx_app]
          refine ⟨_, rfl, rfl, _, rfl, iteF ?_⟩
          exact ⟨_, rfl, q H3 _ xx ⟨by rw [List.length_append]; show 1 ≤ sg.length + 1; omega, by rw [List.length_append]; show sg.length + 1 ≤ 6; omega, dot2 sg hS⟩⟩
        · refine ⟨_, rfl, rfl, _, rfl, ite2 (fun e3 => ?_) (fun e3 => ?_)⟩
          · refine ⟨_, rfl, _, _, rfl, rfl, ?_, _, _, rfl, rfl, ?_, ?_⟩
            · rw [dot_eq, Tx_len, Tx_len]
              exact small1002 (by show 1 + sg.length ≤ _; omega)
            · rw [dot_eq, Tx_app, Tx_len, Tx_len]
              exact small1002 (by rw [List.length_append]; show 1 + sg.length + 1 ≤ _; omega)
            rw [dot_eq, Tx_app, Tx_app]
            exact ⟨_, rfl, q H3 _ xx ⟨by rw [List.length_append, List.length_append]; show 1 ≤ 1 + sg.length + 1; omega, by rw [List.length_append, List.length_append]; show 1 + sg.length + 1 ≤ 6; omega, dot2 _ (dot1 sg hS)⟩⟩
          · exact ⟨_, rfl, q H3 _ xx ⟨h1, by omega, hS⟩⟩
end
end G
/-! GLT: _law_pattern. -/
namespace G
open PySem PySem.Spec PyProof.Rows L2 TL GM
theorem bar_eq : ("|" : Str) = Tx [124] := by decide +kernel
theorem num_at {r : Int} (h0 : 0 ≤ r) (h8 : r < 8) : ∃ m : Nat, atI [V.int 0, .int 0, .int 1, .int 2, .int 3, .int 4, .int 9, .int 0] r = some (.int (m : Int)) ∧ m < 10 := by
  have h : r = 0 ∨ r = 1 ∨ r = 2 ∨ r = 3 ∨ r = 4 ∨ r = 5 ∨ r = 6 ∨ r = 7 := by omega
  rcases h with rfl | rfl | rfl | rfl | rfl | rfl | rfl | rfl
  · exact ⟨0, rfl, by omega⟩
  · exact ⟨0, rfl, by omega⟩
  · exact ⟨1, rfl, by omega⟩
  · exact ⟨2, rfl, by omega⟩
  · exact ⟨3, rfl, by omega⟩
  · exact ⟨4, rfl, by omega⟩
  · exact ⟨9, rfl, by omega⟩
  · exact ⟨0, rfl, by omega⟩
theorem str_num {m : Nat} (h : m < 10) : Str.ofString (toString ((m : Nat) : Int)) = Tx [48 + m] := ext_tl (by
  rw [tl_num, numL_lt h, tl_Tx])
theorem log_small {m : Nat} (h : m < 10) : ((m : Int)).natAbs.log2 < 1920 := by
  have e : ((m : Int)).natAbs = m := Int.natAbs_natCast m
  rw [e]
  have h2 : m = 0 ∨ m = 1 ∨ m = 2 ∨ m = 3 ∨ m = 4 ∨ m = 5 ∨ m = 6 ∨ m = 7 ∨ m = 8 ∨ m = 9 := by omega
  rcases h2 with rfl | rfl | rfl | rfl | rfl | rfl | rfl | rfl | rfl | rfl <;> decide +kernel
theorem fig_num {m : Nat} (h : m < 10) : 48 + m ∈ figs := by
  unfold figs
  simp
  omega
theorem sg_fig {c : Nat} (h : Sg c) : ¬ c ∈ figs := by
  unfold figs
  unfold Sg at h
  simp
  omega
theorem sg_bar {c : Nat} (h : Sg c) : c ≠ 124 := by
  unfold Sg at h
  omega
theorem pfold_fig {t sg : List Nat} {ns : List Int} {m : Nat} (hm : m < 10) (h : pfold t pini = some (sg, ns, true)) : pfold (t ++ [48 + m]) pini = some (sg, ns.set (ns.length - 1) (((48 + m : Nat) : Int) - 48), false) := by
  rw [pfold_app, h]
  show (pstep (sg, ns, true) (48 + m)).bind (pfold []) = _
  unfold pstep
  rw [if_pos (fig_num hm), if_pos rfl]
  rfl
theorem pfold_sign {t sg : List Nat} {ns : List Int} {f : Bool} {c : Nat} (hc : ¬ c ∈ figs) (h : pfold t pini = some (sg, ns, f)) : pfold (t ++ [c]) pini = some (sg ++ [c], ns ++ [0], true) := by
  rw [pfold_app, h]
  show (pstep (sg, ns, f) c).bind (pfold []) = _
  unfold pstep
  rw [if_neg hc]
  rfl
abbrev nLT : List Str := ["_law_feed", "_law_signs_here", "_law_text", "_law_char", "_law_number"]
theorem scLT : FnScope nLT ["_law_feed", "_law_signs_here"] (defScope sLT) := ⟨rfl, rfl, rfl, by decide +kernel, rfl, by decide +kernel, by decide +kernel⟩
def spLT : Sp := fun vs H Q _ => ∃ (a : Addr) (sg : List Nat), vs = [.ref a, .str (Tx sg)] ∧ FeedAt a H ∧ SgOk sg ∧ ∀ H' l ns, Feed a H H' → Reads l sg ns → l.length ≤ 20 → Q (.str (Tx l)) H'
section
variable {P : Program} {w : World} {K : PySem.W.Frag} {mg : Str → Option Value} {base : Heap}
theorem ok_LT {f fK : Addr} {fd fdK : FuncData} (F : Fun K "_law_pattern" "_law_pattern" sLT f fd) (B : Bi mg) (GK : FnOk P w K mg base CX0 1 fK fdK ["_law_feed", "_law_many"] spLK) (kK : PySem.W.keepIn K (.ref fK) = true) (bK : Binds K fdK ["_law_feed", "_law_many"] []) (gK : mg "_law_pick" = some (.ref fK)) :
    FnOk P w K mg base CX0 2 f fd ["_law_feed", "_law_signs_here"] spLT := by
  refine F.ok scLT (fun vs H Q E h => ?_) (fun cdv A outer s H vs Q E hr h => ?_)
  · obtain ⟨a, sg, rfl, _⟩ := h
    rfl
  · obtain ⟨a, sg, rfl, hA, ⟨g1, g6, gS⟩, q⟩ := h
    refine ⟨_, pss_cons (ps_set (i := 2) scLT.nd rfl (.inl rfl) pe_str)
      (pss_cons (ps_for PassesOwn.never rfl (pi_str (pe_op op_add_str (pv 1) pe_str)) (pg_name (i := 3) scLT.nd rfl (.inl rfl))
        (pss_cons (ps_set (i := 4) scLT.nd rfl (.inl rfl) (pe_ix ix_list (pe_lst (pa_cons pe_int (pa_cons pe_int (pa_cons pe_int (pa_cons pe_int (pa_cons pe_int (pa_cons pe_int (pa_cons pe_int (pa_cons pe_int pa_nil)))))))))
            (pe_call GK hr (by rfl) gK kK bK .nil pass0 (pa_cons (pv 0) (pa_cons pe_int pa_nil))) (fun _ _ => rfl)))
        (C8.pss_cut (ps_if (PW.pt (pw_or (pt_cmpR op_gt (pv 4) pe_int (nomark _)) (pw_or1 (pt_cmpR op_eq (pe_call GK hr (by rfl) gK kK bK .nil pass0 (pa_cons (pv 0) (pa_cons pe_int pa_nil))) pe_int (nomark _)))))
          (pss_one (ps_set (i := 2) scLT.nd rfl (.inl rfl) (pe_op op_add_str (pv 2) (pe_callTy call_str_int (by rfl) B.str (by decide +kernel) (pa_cons (pv 4) pa_nil))))) pss_nil)
        (pss_one (ps_if (pt_cmpR op_ne (pv 3) pe_str (nomark _)) (pss_one (ps_set (i := 2) scLT.nd rfl (.inl rfl) (pe_op op_add_str (pv 2) (pv 3)))) pss_nil)))))
      (pss_one (ps_ret (pv 2)))), ?_⟩
    refine ⟨_, rfl, _, _, rfl, rfl, ?_, ?_⟩
    · rw [bar_eq, Tx_len, Tx_len]
      exact small1002 (by show sg.length + 1 ≤ _; omega)
    rw [bar_eq, Tx_app]
    refine ⟨_, rfl, for_it walk_str (fun i σ H' => ∃ (t : List Nat) (ns : List Int) (fr : Bool) (c3 c4 : Option V), σ = [some (.ref a), some (.str (Tx sg)), some (.str (Tx t)), c3, c4] ∧ Feed a H H' ∧
        pfold t pini = some (sg.take i, ns, fr) ∧ (i ≤ sg.length → fr = true) ∧ t.length ≤ 2 * i)
      ⟨[], [0], true, none, none, by rw [← empty_eq]; rfl, Feed.refl hA, rfl, fun _ => rfl, Nat.le_refl _⟩ (fun _ _ _ _ _ => trivial) ?_ ?_⟩
    · rintro i x σ H1 H2 hi ⟨t, ns, fr, c3, c4, rfl, x1, hp, hf, hl⟩ ⟨rfl, c, hc, rfl⟩
      rw [Tx_size, List.length_append] at hi
      have hi : i < sg.length + 1 := hi
      rw [Tx_get] at hc
      obtain rfl := hf (by omega)
      refine ⟨(by show 8 ≤ sizeLine; decide), fun p np => ?_⟩
      have npa : p ≠ a := x1.2.ne np
      have xp := (Feed.refl x1.2).laid np (.lst [V.int 0, .int 0, .int 1, .int 2, .int 3, .int 4, .int 9, .int 0])
      refine ⟨_, rfl, a, 8, rfl, xp.2, (by decide), fun H3 r x3 r0 r8 => ?_⟩
      obtain ⟨m, hm, m10⟩ := num_at r0 r8
      refine ⟨p, _, r, _, rfl, rfl, SqL.of (x3.1 _ _ upd_same npa), hm, ?_⟩
      have xx : Feed a H H3 := x1.trans (xp.trans x3)
      refine ⟨fun σ' H' => ∃ (t' : List Nat) (ns' : List Int) (f' : Bool), σ' = [some (.ref a), some (.str (Tx sg)), some (.str (Tx t')), some (.str ⟨#[c]⟩), some (.int (m : Int))] ∧ Feed a H H' ∧
        pfold t' pini = some (sg.take i, ns', f') ∧ t'.length ≤ 2 * i + 1, ?_, ?_⟩
      · have add : ∀ H4, Feed a H H4 → ∃ (t' : List Nat) (ns' : List Int) (f' : Bool), [some (V.ref a), some (V.str (Tx sg)), some (V.str (Tx t ++ Str.ofString (toString ((m : Nat) : Int)))), some (.str ⟨#[c]⟩), some (.int (m : Int))] = [some (V.ref a), some (.str (Tx sg)), some (.str (Tx t')), some (.str ⟨#[c]⟩), some (.int (m : Int))] ∧ Feed a H H4 ∧
            pfold t' pini = some (sg.take i, ns', f') ∧ t'.length ≤ 2 * i + 1 := fun H4 x4 => by
          refine ⟨t ++ [48 + m], _, _, by rw [str_num m10, Tx_app], x4, pfold_fig m10 hp, ?_⟩
          rw [List.length_append]
          show t.length + 1 ≤ _
          omega
        have size : (Tx t).length + (Str.ofString (toString ((m : Nat) : Int))).length ≤ sizeLine := by
          rw [str_num m10, Tx_len, Tx_len]
          exact small1002 (by show t.length + 1 ≤ _; omega)
        refine ⟨_, rfl, _, _, rfl, rfl, _, rfl, ite2 (fun _ => iteT ?_) (fun _ => ?_)⟩
        · exact ⟨_, rfl, _, rfl, _, rfl, log_small m10, _, _, rfl, rfl, size, add H3 xx⟩
        · refine ⟨_, rfl, a, 19, rfl, xx.2, (by decide), fun H4 r' x4 r0' r19 => ?_⟩
          refine ⟨rfl, _, rfl, ite2 (fun _ => ?_) (fun _ => ?_)⟩
          · exact ⟨_, rfl, _, rfl, _, rfl, log_small m10, _, _, rfl, rfl, size, add H4 (xx.trans x4)⟩
          · exact ⟨t, ns, true, rfl, xx.trans x4, hp, by omega⟩
      · rintro σ' H4 ⟨t', ns', f', rfl, x4, hp', hl'⟩
        refine ⟨_, rfl, rfl, _, rfl, ?_⟩
        by_cases he : i < sg.length
        · have hc' : sg[i]? = some c := by
            rw [List.getElem?_append_left he] at hc
            exact hc
          have hS := gS c (List.mem_of_getElem? hc')
          have hne : (!decide (V.str (⟨#[c]⟩ : Str) = V.str (Tx [124]))) = true := by
            rw [decide_eq_false]
            · rfl
            · intro z
              have := Tx_inj (V.str.inj z)
              exact sg_bar hS (List.cons.inj this).1
          rw [hne]
          refine iteT ?_
          refine ⟨_, rfl, _, rfl, _, _, rfl, rfl, ?_, ?_⟩
          · rw [Tx_one, Tx_len, Tx_len]
            exact small1002 (by show t'.length + 1 ≤ _; omega)
          · refine ⟨t' ++ [c], ns' ++ [0], true, some (.str ⟨#[c]⟩), some (.int (m : Int)), ?_, x4, ?_, fun _ => rfl, ?_⟩
            · rw [Tx_one, Tx_app]
              rfl
            · rw [take_snoc hc']
              exact pfold_sign (sg_fig hS) hp'
            · rw [List.length_append]
              show t'.length + 1 ≤ _
              omega
        · have hie : i = sg.length := by omega
          have hc' : c = 124 := by
            rw [List.getElem?_append_right (by omega), hie, Nat.sub_self] at hc
            exact (Option.some.inj hc).symm
          have hne : (!decide (V.str (⟨#[c]⟩ : Str) = V.str (Tx [124]))) = false := by
            rw [hc', decide_eq_true]
            · rfl
            · rfl
          rw [hne]
          refine iteF ⟨t', ns', f', _, _, rfl, x4, ?_, fun z => by omega, by omega⟩
          rw [List.take_of_length_le (show sg.length ≤ i + 1 by omega)]
          rw [List.take_of_length_le (show sg.length ≤ i by omega)] at hp'
          exact hp'
    · rintro σ H1 ⟨t, ns, fr, c3, c4, rfl, x1, hp, hf, hl⟩
      rw [Tx_size, List.length_append] at hp hl
      have hl : t.length ≤ 2 * (sg.length + 1) := hl
      rw [List.take_of_length_le (Nat.le_add_right _ _)] at hp
      exact ⟨_, rfl, q H1 t ns x1 ⟨fr, hp⟩ (by omega)⟩
end
end G
/-! GLS: _law_patterns. -/
namespace G
open PySem PySem.Spec PyProof.Rows L2 TL GM
theorem SL_flat (ps : List (List Nat)) : (SL ps).all flatV = true := by
  rw [List.all_eq_true]
  intro x hx
  obtain ⟨y, _, rfl⟩ := List.mem_map.mp hx
  rfl
theorem inSL (x : List Nat) (ps : List (List Nat)) : inV (.str (Tx x)) (SL ps) = decide (x ∈ ps) := by
  unfold inV
  induction ps with
  | nil => simp
  | cons p r ih =>
    show (eqV (.str (Tx p)) (.str (Tx x)) || (SL r).any fun y => eqV y (.str (Tx x))) = _
    rw [ih]
    show ((Tx p == Tx x) || decide (x ∈ r)) = decide (x ∈ p :: r)
    by_cases e : p = x
    · subst e
      simp
    · have h1 : (Tx p == Tx x) = false := beq_eq_false_iff_ne.mpr fun z => e (Tx_inj z)
      have h2 : ¬ x = p := fun z => e z.symm
      rw [h1]
      simp [h2]
/-- a pattern's text and its entry, as the law makes them -/
def PatG (l : List Nat) (e : List Nat × List Int) : Prop := Reads l e.1 e.2 ∧ l.length ≤ 20 ∧ SgOk e.1
abbrev nLS : List Str := ["_law_feed", "_law_most", "_law_known", "_law_rows", "_law_k", "_law_signs_here"]
theorem scLS : FnScope nLS ["_law_feed", "_law_most"] (defScope sLS) := ⟨rfl, rfl, rfl, by decide +kernel, rfl, by decide +kernel, by decide +kernel⟩
def spLS : Sp := fun vs H Q _ => ∃ (a : Addr) (m : Int), vs = [.ref a, .int m] ∧ FeedAt a H ∧ 0 < m ∧ m ≤ 100 ∧
  ∀ H' r ls T, Feed a H H' → H r = none → H' r = some (.lst (SL ls)) → Zp PatG ls T → (T.map Prod.fst).Nodup → ls.length ≤ 100 → Q (.ref r) H'
section
variable {P : Program} {w : World} {K : PySem.W.Frag} {mg : Str → Option Value} {base : Heap}
theorem ok_LS {f fK fG fT : Addr} {fd fdK fdG fdT : FuncData} (F : Fun K "_law_patterns" "_law_patterns" sLS f fd) (B : Bi mg) (GK : FnOk P w K mg base CX0 1 fK fdK ["_law_feed", "_law_many"] spLK) (kK : PySem.W.keepIn K (.ref fK) = true) (bK : Binds K fdK ["_law_feed", "_law_many"] []) (gK : mg "_law_pick" = some (.ref fK))
    (GG : FnOk P w K mg base CX0 2 fG fdG ["_law_feed"] spLG) (kG : PySem.W.keepIn K (.ref fG) = true) (bG : Binds K fdG ["_law_feed"] []) (gG : mg "_law_signs" = some (.ref fG))
    (GT : FnOk P w K mg base CX0 2 fT fdT ["_law_feed", "_law_signs_here"] spLT) (kT : PySem.W.keepIn K (.ref fT) = true) (bT : Binds K fdT ["_law_feed", "_law_signs_here"] []) (gT : mg "_law_pattern" = some (.ref fT)) :
    FnOk P w K mg base CX0 3 f fd ["_law_feed", "_law_most"] spLS := by
  refine F.ok scLS (fun vs H Q E h => ?_) (fun cdv A outer s H vs Q E hr h => ?_)
  · obtain ⟨a, m, rfl, _⟩ := h
    rfl
  · obtain ⟨a, m, rfl, hA, m0, m100, q⟩ := h
    have hr1 : Room 1 _ := hr.mono (by decide)
    refine ⟨_, pss_cons (ps_set (i := 2) scLS.nd rfl (.inl rfl) (pe_lst pa_nil))
      (pss_cons (ps_set (i := 3) scLS.nd rfl (.inl rfl) (pe_lst pa_nil))
      (pss_cons (ps_for PassesOwn.never rfl (pi_range1 (by rfl) B.range (pa_cons (pe_call GK hr1 (by rfl) gK kK bK .nil pass0 (pa_cons (pv 0) (pa_cons (pv 1) pa_nil))) pa_nil)) (pg_name (i := 4) scLS.nd rfl (.inl rfl))
        (pss_cons (ps_set (i := 5) scLS.nd rfl (.inl rfl) (pe_call GG hr (by rfl) gG kG bG .nil pass0 (pa_cons (pv 0) pa_nil)))
        (pss_one (ps_if (pt_cmpR op_notIn_seq (pv 5) (pv 2) (by rfl))
          (pss_cons (ps_expr (pe_bm PySem.F.plainAttrs_list PySem.F.slot_list_append PySem.F.type_list_append mt_append (pv 2) (pa_cons (pv 5) pa_nil)))
          (pss_one (ps_expr (pe_bm PySem.F.plainAttrs_list PySem.F.slot_list_append PySem.F.type_list_append mt_append (pv 3) (pa_cons (pe_call GT hr (by rfl) gT kT bT .nil pass0 (pa_cons (pv 0) (pa_cons (pv 5) pa_nil))) pa_nil))))) pss_nil))))
      (pss_one (ps_ret (pv 3))))), ?_⟩
    refine ⟨Nat.zero_le _, fun kn nk => ?_⟩
    have nka : kn ≠ a := hA.ne nk
    have xk : Feed a H (upd H kn (.lst [])) := (Feed.refl hA).laid nk _
    refine ⟨Nat.zero_le _, fun rw nr => ?_⟩
    have nra : rw ≠ a := xk.2.ne nr
    have nrk : rw ≠ kn := fun z => by
      rw [z, upd_same] at nr
      cases nr
    have nr0 : H rw = none := by
      rw [upd_ne nrk] at nr
      exact nr
    have xr : Feed a H (upd (upd H kn (.lst [])) rw (.lst [])) := xk.trans ((Feed.refl xk.2).laid nr _)
    refine ⟨_, rfl, _, rfl, a, m, rfl, xr.2, m0, fun H1 r x1 r0 rm => ?_⟩
    have xx : Feed a H H1 := xr.trans x1
    refine ⟨_, rfl, (by omega), (by omega), for_it walk_rng0 (fun i σ H' => ∃ (ls : List (List Nat)) (T : Tab) (c4 c5 : Option V), σ = [some (.ref a), some (.int m), some (.ref kn), some (.ref rw), c4, c5] ∧ Feed a H H' ∧
        H' kn = some (.lst (SL (T.map Prod.fst))) ∧ H' rw = some (.lst (SL ls)) ∧ Zp PatG ls T ∧ (T.map Prod.fst).Nodup ∧ ls.length ≤ i)
      ⟨[], [], none, none, rfl, xx, x1.1 _ _ (by rw [upd_ne nrk.symm, upd_same]; rfl) nka, x1.1 _ _ upd_same nra, Zp.nil, List.nodup_nil, Nat.le_refl _⟩ (fun _ _ _ _ _ => trivial) ?_ ?_⟩
    · rintro i x σ H2 H3 hi ⟨ls, T, c4, c5, rfl, x2, ek, er, hz, nd, hl⟩ ⟨rfl, rfl⟩
      have hi : i < 100 := by omega
      refine ⟨_, rfl, a, rfl, x2.2, fun H4 sg x4 hS => ?_⟩
      have ek4 := x4.1 _ _ ek nka
      have er4 := x4.1 _ _ er nra
      refine ⟨_, rfl, _, rfl, kn, _, rfl, .inl (SqL.of ek4), rfl, SL_flat _, _, rfl, ?_⟩
      have hT : T.length = ls.length := hz.len.symm
      refine ite2 (fun hn => ?_) (fun hn => ?_)
      · have hn : ¬ sg ∈ T.map Prod.fst := by
          have hn : (!inV (.str (Tx sg)) (SL (T.map Prod.fst))) = true := hn
          rw [inSL] at hn
          intro z
          rw [decide_eq_true z] at hn
          cases hn
        refine ⟨_, rfl, .inl ⟨rfl, _, SqL.of ek4⟩, _, rfl, kn, _, _, rfl, rfl, ek4, ?_, ?_⟩
        · rw [SL_len, List.length_map]
          exact small1001 (by omega)
        · have er5 : (upd H4 kn (.lst (SL (T.map Prod.fst) ++ [.str (Tx sg)]))) rw = some (.lst (SL ls)) := by
            rw [upd_ne nrk]
            exact er4
          have x5 : Feed a H (upd H4 kn (.lst (SL (T.map Prod.fst) ++ [.str (Tx sg)]))) := (x2.trans x4).put nk nka _
          refine ⟨_, rfl, .inl ⟨rfl, _, SqL.of er5⟩, _, rfl, _, rfl, a, sg, rfl, x5.2, hS, fun H6 l ns x6 hR hl6 => ?_⟩
          have er6 := x6.1 _ _ er5 nra
          have ek6 := x6.1 _ _ upd_same nka
          refine ⟨rw, _, _, rfl, rfl, er6, ?_, ?_⟩
          · rw [SL_len]
            exact small1001 (by omega)
          · refine ⟨ls ++ [l], T ++ [(sg, ns)], _, _, rfl, (x5.trans x6).put nr0 nra _, ?_, ?_, hz.snoc ⟨hR, hl6, hS⟩, ?_, ?_⟩
            · rw [upd_ne nrk.symm, ek6, List.map_append, SL_app]
              rfl
            · rw [upd_same, SL_app]
              rfl
            · rw [List.map_append]
              exact nd_snoc nd hn
            · rw [List.length_append]
              exact Nat.succ_le_succ hl
      · exact ⟨ls, T, _, _, rfl, x2.trans x4, ek4, er4, hz, nd, by omega⟩
    · rintro σ H2 ⟨ls, T, c4, c5, rfl, x2, ek, er, hz, nd, hl⟩
      exact ⟨_, rfl, q H2 rw ls T x2 nr0 er hz nd (by omega)⟩
end
end G
/-! GLX: _law_exceptions. -/
namespace G
open PySem PySem.Spec PyProof.Rows L2 TL GM
/-- the last part longer by a letter -/
def ext (c : Nat) : List (List Nat) → List (List Nat)
  | [] => [[c]]
  | [p] => [p ++ [c]]
  | p :: q :: r => p :: ext c (q :: r)
theorem ext_ne (c : Nat) : ∀ ps, ext c ps ≠ []
  | [] => by intro h; cases h
  | [_] => by intro h; cases h
  | _ :: _ :: _ => by intro h; cases h
theorem ext_flat (c : Nat) : ∀ ps, (ext c ps).flatten = ps.flatten ++ [c]
  | [] => rfl
  | [p] => by
    show (p ++ [c]) ++ [] = (p ++ []) ++ [c]
    rw [List.append_nil, List.append_nil]
  | p :: q :: r => by
    show p ++ (ext c (q :: r)).flatten = (p ++ (q :: r).flatten) ++ [c]
    rw [ext_flat c (q :: r), List.append_assoc]
theorem ext_len (c : Nat) : ∀ ps, (ext c ps).length ≤ ps.length + 1
  | [] => Nat.le_refl _
  | [p] => Nat.le_succ _
  | p :: q :: r => Nat.succ_le_succ (ext_len c (q :: r))
theorem ext_join (c : Nat) (S : List Nat) : ∀ ps, ps ≠ [] → joinL S (ext c ps) = joinL S ps ++ [c]
  | [], h => absurd rfl h
  | [p], _ => rfl
  | p :: q :: r, _ => by
    have ih := ext_join c S (q :: r) (by intro h; cases h)
    have e : joinL S (p :: ext c (q :: r)) = p ++ (S ++ joinL S (ext c (q :: r))) := by
      cases h : ext c (q :: r) with
      | nil => exact absurd h (ext_ne c _)
      | cons x y => rfl
    show joinL S (p :: ext c (q :: r)) = (p ++ (S ++ joinL S (q :: r))) ++ [c]
    rw [e, ih, List.append_assoc, List.append_assoc]
theorem ext_ok {c : Nat} (h1 : 97 ≤ c) (h2 : c ≤ 99) : ∀ ps : List (List Nat), (∀ p ∈ ps, p ≠ [] ∧ Lc p) → ∀ p ∈ ext c ps, p ≠ [] ∧ Lc p
  | [], _, p, hp => by
    have e : p = [c] := List.mem_singleton.mp hp
    subst e
    exact ⟨by simp, fun x hx => by rw [List.mem_singleton.mp hx]; exact ⟨h1, h2⟩⟩
  | [q], h, p, hp => by
    have e : p = q ++ [c] := List.mem_singleton.mp hp
    subst e
    refine ⟨by simp, fun x hx => ?_⟩
    rcases List.mem_append.mp hx with hx | hx
    · exact (h q (List.mem_singleton.mpr rfl)).2 x hx
    · rw [List.mem_singleton.mp hx]
      exact ⟨h1, h2⟩
  | q :: q' :: r, h, p, hp => by
    rcases List.mem_cons.mp hp with e | hp
    · rw [e]
      exact h q List.mem_cons_self
    · exact ext_ok h1 h2 (q' :: r) (fun x hx => h x (List.mem_cons_of_mem _ hx)) p hp
theorem join_new (c : Nat) (S : List Nat) : ∀ ps : List (List Nat), ps ≠ [] → joinL S (ps ++ [[c]]) = joinL S ps ++ (S ++ [c])
  | [], h => absurd rfl h
  | [p], _ => rfl
  | p :: q :: r, _ => by
    have ih := join_new c S (q :: r) (by intro h; cases h)
    show p ++ (S ++ joinL S ((q :: r) ++ [[c]])) = (p ++ (S ++ joinL S (q :: r))) ++ (S ++ [c])
    rw [ih, List.append_assoc, List.append_assoc]
theorem new_ok {c : Nat} (h1 : 97 ≤ c) (h2 : c ≤ 99) (ps : List (List Nat)) (h : ∀ p ∈ ps, p ≠ [] ∧ Lc p) : ∀ p ∈ ps ++ [[c]], p ≠ [] ∧ Lc p := fun p hp => by
  rcases List.mem_append.mp hp with hp | hp
  · exact h p hp
  · rw [List.mem_singleton.mp hp]
    exact ⟨by simp, fun x hx => by rw [List.mem_singleton.mp hx]; exact ⟨h1, h2⟩⟩
theorem cut_tail (l : List Nat) : cutS (Tx l) (some 1) none = Tx (l.drop 1) := by
  have e1 : HT.sIx l.length 0 (some 1) = min 1 l.length := HT.sIx_nat l.length 0 1
  unfold cutS
  rw [HT.sIx_none, Tx_len, e1]
  show Tx ((l.drop (min 1 l.length)).take (l.length - min 1 l.length)) = Tx (l.drop 1)
  congr 1
  cases l with
  | nil => rfl
  | cons x r =>
    rw [show min 1 (x :: r).length = 1 by rw [List.length_cons]; omega]
    exact List.take_of_length_le (by rw [List.length_drop]; exact Nat.le_refl _)
theorem sep_at {r : Int} (h0 : 0 ≤ r) (h2 : r < 2) : (r = 0 ∧ atI [V.str (Str.ofString ""), V.str (Str.ofString "-")] r = some (.str (Tx []))) ∨ (r = 1 ∧ atI [V.str (Str.ofString ""), V.str (Str.ofString "-")] r = some (.str (Tx [45]))) := by
  rw [empty_eq, dash_eq]
  have h : r = 0 ∨ r = 1 := by omega
  rcases h with rfl | rfl
  · exact .inl ⟨rfl, rfl⟩
  · exact .inr ⟨rfl, rfl⟩
abbrev nLX : List Str := ["_law_feed", "_law_most", "_law_known", "_law_rows", "_law_k", "_law_word", "_law_marked", "_law_char", "_law_j"]
theorem scLX : FnScope nLX ["_law_feed", "_law_most"] (defScope sLX) := ⟨rfl, rfl, rfl, by decide +kernel, rfl, by decide +kernel, by decide +kernel⟩
def spLX : Sp := fun vs H Q _ => ∃ (a : Addr) (m : Int), vs = [.ref a, .int m] ∧ FeedAt a H ∧ 0 < m ∧ m ≤ 100 ∧
  ∀ H' r xs X, Feed a H H' → H r = none → H' r = some (.lst (SL xs)) → Zp Div xs X → (X.map List.flatten).Nodup → xs.length ≤ 100 → Q (.ref r) H'
section
variable {P : Program} {w : World} {K : PySem.W.Frag} {mg : Str → Option Value} {base : Heap}
theorem ok_LX {f fK : Addr} {fd fdK : FuncData} (F : Fun K "_law_exceptions" "_law_exceptions" sLX f fd) (B : Bi mg) (GK : FnOk P w K mg base CX0 1 fK fdK ["_law_feed", "_law_many"] spLK) (kK : PySem.W.keepIn K (.ref fK) = true) (bK : Binds K fdK ["_law_feed", "_law_many"] []) (gK : mg "_law_pick" = some (.ref fK)) :
    FnOk P w K mg base CX0 2 f fd ["_law_feed", "_law_most"] spLX := by
  refine F.ok scLX (fun vs H Q E h => ?_) (fun cdv A outer s H vs Q E hr h => ?_)
  · obtain ⟨a, m, rfl, _⟩ := h
    rfl
  · obtain ⟨a, m, rfl, hA, m0, m100, q⟩ := h
    refine ⟨_, pss_cons (ps_set (i := 2) scLX.nd rfl (.inl rfl) (pe_lst pa_nil))
      (pss_cons (ps_set (i := 3) scLX.nd rfl (.inl rfl) (pe_lst pa_nil))
      (pss_cons (ps_for PassesOwn.never rfl (pi_range1 (by rfl) B.range (pa_cons (pe_call GK hr (by rfl) gK kK bK .nil pass0 (pa_cons (pv 0) (pa_cons (pv 1) pa_nil))) pa_nil)) (pg_name (i := 4) scLX.nd rfl (.inl rfl))
        (pss_cons (ps_set (i := 5) scLX.nd rfl (.inl rfl) (pe_join pe_str (pe_lc (own := [("_law_j", 8)]) (g := gName 8) (tt := tYes) rfl scLX.nd
          (pi_range1 (by rfl) B.range (pa_cons (pe_op op_add pe_int (pe_call GK hr (by rfl) gK kK bK .nil pass0 (pa_cons (pv 0) (pa_cons pe_int pa_nil)))) pa_nil))
          (blkOk_by (own := [("_law_j", 8)]) (N := nLX) (sc := defScope sLX) (by decide +kernel))
          (fun _ _ _ _ _ => pg_name (i := 8) scLX.nd rfl (Or.inl rfl)) (fun _ _ _ _ _ => pts_nil)
          (fun _ _ _ _ _ => pe_ix ix_str pe_str (pe_call GK hr (by rfl) gK kK bK .nil pass0 (pa_cons (pv 0) (pa_cons pe_int pa_nil))) (fun _ _ => rfl)))))
        (pss_one (ps_if (pt_cmpR op_notIn_seq (pv 5) (pv 2) (by rfl))
          (pss_cons (ps_expr (pe_bm PySem.F.plainAttrs_list PySem.F.slot_list_append PySem.F.type_list_append mt_append (pv 2) (pa_cons (pv 5) pa_nil)))
          (pss_cons (ps_set (i := 6) scLX.nd rfl (.inl rfl) (pe_ix ix_str (pv 5) pe_int (fun _ _ => rfl)))
          (pss_cons (ps_for PassesOwn.never rfl (pi_str (pe_slice sl_str (pv 5) (po_some pe_int) po_none)) (pg_name (i := 7) scLX.nd rfl (.inl rfl))
            (pss_one (ps_set (i := 6) scLX.nd rfl (.inl rfl) (pe_op op_add_str (pe_op op_add_str (pv 6) (pe_ix ix_list (pe_lst (pa_cons pe_str (pa_cons pe_str pa_nil))) (pe_call GK hr (by rfl) gK kK bK .nil pass0 (pa_cons (pv 0) (pa_cons pe_int pa_nil))) (fun _ _ => rfl))) (pv 7)))))
          (pss_one (ps_expr (pe_bm PySem.F.plainAttrs_list PySem.F.slot_list_append PySem.F.type_list_append mt_append (pv 3) (pa_cons (pv 6) pa_nil))))))) pss_nil))))
      (pss_one (ps_ret (pv 3))))), ?_⟩
    refine ⟨Nat.zero_le _, fun kn nk => ?_⟩
    have nka : kn ≠ a := hA.ne nk
    have xk : Feed a H (upd H kn (.lst [])) := (Feed.refl hA).laid nk _
    refine ⟨Nat.zero_le _, fun rw nr => ?_⟩
    have nra : rw ≠ a := xk.2.ne nr
    have nrk : rw ≠ kn := fun z => by
      rw [z, upd_same] at nr
      cases nr
    have nr0 : H rw = none := by
      rw [upd_ne nrk] at nr
      exact nr
    have xr : Feed a H (upd (upd H kn (.lst [])) rw (.lst [])) := xk.trans ((Feed.refl xk.2).laid nr _)
    refine ⟨_, rfl, _, rfl, a, m, rfl, xr.2, m0, fun H1 r x1 r0 rm => ?_⟩
    have xx : Feed a H H1 := xr.trans x1
    refine ⟨_, rfl, (by omega), (by omega), for_it walk_rng0 (fun i σ H' => ∃ (xs : List (List Nat)) (X : List (List (List Nat))) (c4 c5 c6 c7 : Option V), σ = [some (.ref a), some (.int m), some (.ref kn), some (.ref rw), c4, c5, c6, c7, none] ∧ Feed a H H' ∧
        H' kn = some (.lst (SL (X.map List.flatten))) ∧ H' rw = some (.lst (SL xs)) ∧ Zp Div xs X ∧ (X.map List.flatten).Nodup ∧ xs.length ≤ i)
      ⟨[], [], none, none, none, none, rfl, xx, x1.1 _ _ (by rw [upd_ne nrk.symm, upd_same]; rfl) nka, x1.1 _ _ upd_same nra, Zp.nil, List.nodup_nil, Nat.le_refl _⟩ (fun _ _ _ _ _ => trivial) ?_ ?_⟩
    · rintro i x σ H2 H3 hi ⟨xs, X, c4, c5, c6, c7, rfl, x2, ek, er, hz, nd, hl⟩ ⟨rfl, rfl⟩
      have hi : i < 100 := by omega
      refine ⟨⟨_, rfl⟩, _, rfl, a, 6, rfl, x2.2, (by decide), fun H4 r1 x4 q0 q6 => ?_⟩
      refine ⟨_, _, rfl, rfl, _, rfl, (by omega), (by omega), fun D nD => ?_⟩
      have nDa : D ≠ a := x4.2.ne nD
      refine lc_it walk_rng0 (fun i H' => Feed a H4 H' ∧ ∃ ps, H' D = some (.lst (SL ps)) ∧ Ones i ps) ⟨(Feed.refl x4.2).put nD nDa _, [], upd_same, Ones.nil⟩ (fun _ _ _ _ => trivial) ?_ ?_
      · rintro j x H5 H6 hj ⟨x5, ps, eD, ho⟩ ⟨rfl, rfl⟩
        refine ⟨rfl, yes (iteT ?_)⟩
        refine ⟨_, rfl, a, 5, rfl, x5.2, (by decide), fun H7 r' x7 r0' r5 => ?_⟩
        obtain ⟨c, hc, c1, c2⟩ := abc_at r0' r5
        refine ⟨_, _, c, rfl, rfl, (by decide +kernel), hc, _, x7.1 _ _ eD nDa, ?_, (x5.trans x7).put nD nDa _, ps ++ [[c]], ?_, ho.snoc c1 c2⟩
        · rw [SL_len, ho.1]
          exact small1001 (by omega)
        · rw [upd_same, SL_app]
          rfl
      · rintro H5 ⟨x5, ps, eD, ho⟩
        refine ⟨_, D, ps.map Tx, rfl, rfl, .inl (SqL.of eD), ho.sizes (by omega), ?_⟩
        rw [join_empty]
        obtain ⟨hl', hL⟩ := ho.flat
        have h1 : 1 ≤ ps.flatten.length := by omega
        have h6 : ps.flatten.length ≤ 6 := by omega
        have x45 : Feed a H3 H5 := x4.trans x5
        clear hl' ho eD
        revert hL h1 h6
        generalize ps.flatten = wd
        intro hL h1 h6
        have ek5 := x45.1 _ _ ek nka
        have er5 := x45.1 _ _ er nra
        refine ⟨_, rfl, _, rfl, kn, _, rfl, .inl (SqL.of ek5), rfl, SL_flat _, _, rfl, ?_⟩
        have hT : X.length = xs.length := hz.len.symm
        refine ite2 (fun hn => ?_) (fun hn => ?_)
        · have hn : ¬ wd ∈ X.map List.flatten := by
            have hn : (!inV (.str (Tx wd)) (SL (X.map List.flatten))) = true := hn
            rw [inSL] at hn
            intro z
            rw [decide_eq_true z] at hn
            cases hn
          refine ⟨_, rfl, .inl ⟨rfl, _, SqL.of ek5⟩, _, rfl, kn, _, _, rfl, rfl, ek5, ?_, ?_⟩
          · rw [SL_len, List.length_map]
            exact small1001 (by omega)
          · have x6 : Feed a H (upd H5 kn (.lst (SL (X.map List.flatten) ++ [.str (Tx wd)]))) := (x2.trans x45).put nk nka _
            have er6 : (upd H5 kn (.lst (SL (X.map List.flatten) ++ [.str (Tx wd)]))) rw = some (.lst (SL xs)) := by
              rw [upd_ne nrk]
              exact er5
            have ek6 : (upd H5 kn (.lst (SL (X.map List.flatten) ++ [.str (Tx wd)]))) kn = some (.lst (SL (X.map List.flatten) ++ [.str (Tx wd)])) := upd_same
            revert x6 er6 ek6
            generalize (upd H5 kn (.lst (SL (X.map List.flatten) ++ [.str (Tx wd)]))) = H6
            intro x6 er6 ek6
            have hw0 : wd[0]? = some wd[0] := List.getElem?_eq_getElem h1
            refine ⟨_, rfl, Tx wd, 0, wd[0], rfl, rfl, (by rw [Tx_len]; exact small1002 (by omega)), ?_, ?_⟩
            · show atI wd ((0 : Nat) : Int) = some wd[0]
              unfold atI
              rw [ixN_nat h1]
              exact hw0
            refine ⟨_, rfl, 1, rfl, _, rfl, (by rw [Tx_len]; exact small1002 (by omega)), ?_⟩
            rw [cut_tail]
            obtain ⟨b1, b2⟩ := hL _ (List.getElem_mem h1)
            refine ⟨_, rfl, for_it walk_str (fun j σ H' => ∃ (ps : List (List Nat)) (c7 : Option V), σ = [some (.ref a), some (.int m), some (.ref kn), some (.ref rw), some (.int (i : Nat)), some (.str (Tx wd)), some (.str (Tx (joinL [45] ps))), c7, none] ∧ Feed a H6 H' ∧
                ps ≠ [] ∧ (∀ p ∈ ps, p ≠ [] ∧ Lc p) ∧ ps.flatten = wd.take (j + 1) ∧ (joinL [45] ps).length ≤ 2 * j + 1 ∧ ps.length ≤ 2 * j + 1)
              ⟨[[wd[0]]], c7, rfl, Feed.refl x6.2, by simp, new_ok b1 b2 [] (fun _ h => by simp at h), by rw [take_snoc hw0]; rfl, Nat.le_refl _, Nat.le_refl _⟩ (fun _ _ _ _ _ => trivial) ?_ ?_⟩
            · rintro j x σ H7 H8 hj ⟨qs, c7, rfl, x7, qn, qo, qf, ql, qk⟩ ⟨rfl, c, hc, rfl⟩
              rw [Tx_size, List.length_drop] at hj
              rw [Tx_get, List.getElem?_drop] at hc
              have hc : wd[j + 1]? = some c := by
                rw [Nat.add_comm j 1]
                exact hc
              obtain ⟨b1, b2⟩ := hL c (List.mem_of_getElem? hc)
              refine ⟨_, rfl, (by show 2 ≤ sizeLine; decide), fun p np => ?_⟩
              have npa : p ≠ a := x7.2.ne np
              have xp := (Feed.refl x7.2).laid np (.lst [V.str (Str.ofString ""), V.str (Str.ofString "-")])
              refine ⟨_, rfl, a, 2, rfl, xp.2, (by decide), fun H9 r' x9 r0' r2 => ?_⟩
              have x79 : Feed a H6 H9 := x7.trans (xp.trans x9)
              rcases sep_at r0' r2 with ⟨_, hat⟩ | ⟨_, hat⟩
              · refine ⟨p, _, r', _, rfl, rfl, SqL.of (x9.1 _ _ upd_same npa), hat, _, _, rfl, rfl, ?_, _, rfl, _, _, rfl, rfl, ?_, ext c qs, some (.str ⟨#[c]⟩), ?_, x79, ext_ne c qs, ext_ok b1 b2 qs qo, ?_, ?_, ?_⟩
                · rw [Tx_len, Tx_len]
                  exact small1002 (by show _ + 0 ≤ _; omega)
                · rw [Tx_app, Tx_one, Tx_len, Tx_len]
                  exact small1002 (by rw [List.length_append]; show _ + 0 + 1 ≤ _; omega)
                · rw [ext_join c [45] qs qn, Tx_app, Tx_one, Tx_app, List.append_nil]
                  rfl
                · rw [ext_flat, qf, take_snoc hc]
                · rw [ext_join c [45] qs qn, List.length_append]
                  show _ + 1 ≤ _
                  omega
                · have := ext_len c qs
                  omega
              · refine ⟨p, _, r', _, rfl, rfl, SqL.of (x9.1 _ _ upd_same npa), hat, _, _, rfl, rfl, ?_, _, rfl, _, _, rfl, rfl, ?_, qs ++ [[c]], some (.str ⟨#[c]⟩), ?_, x79, by simp, new_ok b1 b2 qs qo, ?_, ?_, ?_⟩
                · rw [Tx_len, Tx_len]
                  exact small1002 (by show _ + 1 ≤ _; omega)
                · rw [Tx_app, Tx_one, Tx_len, Tx_len]
                  exact small1002 (by rw [List.length_append]; show _ + 1 + 1 ≤ _; omega)
                · rw [join_new c [45] qs qn, Tx_app, Tx_one, Tx_app, List.append_assoc]
                  rfl
                · rw [List.flatten_append, qf, take_snoc hc]
                  rfl
                · rw [join_new c [45] qs qn, List.length_append]
                  show _ + 2 ≤ _
                  omega
                · rw [List.length_append]
                  show _ + 1 ≤ _
                  omega
            · rintro σ H7 ⟨qs, c7, rfl, x7, qn, qo, qf, ql, qk⟩
              rw [Tx_size, List.length_drop] at qf ql qk
              rw [List.take_of_length_le (by omega)] at qf
              have er7 := x7.1 _ _ er6 nra
              have ek7 := x7.1 _ _ ek6 nka
              refine ⟨_, rfl, .inl ⟨rfl, _, SqL.of er7⟩, _, rfl, rw, _, _, rfl, rfl, er7, ?_, ?_⟩
              · rw [SL_len]
                exact small1001 (by omega)
              · refine ⟨xs ++ [joinL [45] qs], X ++ [qs], _, _, _, _, rfl, (x6.trans x7).put nr0 nra _, ?_, ?_, hz.snoc ⟨rfl, qn, qo, by omega, by omega, by rw [qf]; omega⟩, ?_, ?_⟩
                · rw [upd_ne nrk.symm, ek7, List.map_append, SL_app]
                  show _ = some (HO.lst (_ ++ [V.str (Tx qs.flatten)]))
                  rw [qf]
                · rw [upd_same, SL_app]
                  rfl
                · rw [List.map_append]
                  refine nd_snoc nd ?_
                  rw [qf]
                  exact hn
                · rw [List.length_append]
                  exact Nat.succ_le_succ hl
        · exact ⟨xs, X, _, _, _, _, rfl, x2.trans x45, ek5, er5, hz, nd, by omega⟩
    · rintro σ H2 ⟨xs, X, c4, c5, c6, c7, rfl, x2, ek, er, hz, nd, hl⟩
      exact ⟨_, rfl, q H2 rw xs X x2 nr0 er hz nd (by omega)⟩
end
end G
/-! GLM: _law_same. -/
namespace G
open PySem PySem.Spec PyProof.Rows L2 TL GM
abbrev nLM : List Str := ["_law_actual", "_law_due", "_law_k"]
theorem scLM : FnScope nLM ["_law_actual", "_law_due"] (defScope sLM) := ⟨rfl, rfl, rfl, by decide +kernel, rfl, by decide +kernel, by decide +kernel⟩
def spM1 : Sp := fun vs H Q _ => ∃ i : Int, vs = [.int i, .int i] ∧ Q (.bl true) H
def spM2 : Sp := fun vs H Q _ => ∃ (a b : Addr) (W : List Int), vs = [.ref a, .ref b] ∧ H a = some (.lst (W.map V.int)) ∧ H b = some (.lst (W.map V.int)) ∧ W.length ≤ 100000 ∧ Q (.bl true) H
section
variable {P : Program} {w : World} {K : PySem.W.Frag} {mg : Str → Option Value} {base : Heap}
theorem ok_M1 {f : Addr} {fd : FuncData} {k : Nat} (F : Fun K "_law_same" "_law_same" sLM f fd) (B : Bi mg) : FnOk P w K mg base CX0 (k + 1) f fd ["_law_actual", "_law_due"] spM1 := by
  refine F.ok scLM (fun vs H Q E h => ?_) (fun cdv A outer s H vs Q E hr h => ?_)
  · obtain ⟨i, rfl, _⟩ := h
    rfl
  · obtain ⟨i, rfl, q⟩ := h
    refine ⟨_, pss_cons (ps_if (pt_cmpR op_isN (pv 1) pe_non (nomark _)) (pss_one ps_never) pss_nil)
      (pss_cons (ps_if (pt_val (pe_callB call_isi (by rfl) B.isi (by decide +kernel) (pa_cons (pv 1) (pa_cons (pe_bltn (v := .ty "bool") (by rfl) B.bool (by decide +kernel) rfl) pa_nil)))) (pss_one ps_never) pss_nil)
      (pss_cons (ps_if (pt_val (pe_callB call_isi (by rfl) B.isi (by decide +kernel) (pa_cons (pv 1) (pa_cons (pe_bltn (v := .ty "int") (by rfl) B.int (by decide +kernel) rfl) pa_nil))))
        (pss_one (ps_ret (pe_and (pe_callB call_isi (by rfl) B.isi (by decide +kernel) (pa_cons (pv 0) (pa_cons (pe_bltn (v := .ty "int") (by rfl) B.int (by decide +kernel) rfl) pa_nil)))
          (pe_and (pe_not (pe_callB call_isi (by rfl) B.isi (by decide +kernel) (pa_cons (pv 0) (pa_cons (pe_bltn (v := .ty "bool") (by rfl) B.bool (by decide +kernel) rfl) pa_nil)))) (pe_one (pe_cmpR op_eq (pv 0) (pv 1) (nomark _))))))) pss_nil)
      (pss_cons ps_never (pss_cons ps_never (pss_cons ps_never (pss_cons ps_never (pss_cons ps_never (pss_one ps_never)))))))), ?_⟩
    refine ⟨_, rfl, rfl, _, rfl, iteF ?_⟩
    refine ⟨_, rfl, _, _, _, _, false, rfl, .ty _, .base (.int i), kit_ty (by decide +kernel), _, rfl, iteF ?_⟩
    refine ⟨_, rfl, _, _, _, _, true, rfl, .ty _, .base (.int i), kit_ty (by decide +kernel), _, rfl, iteT ?_⟩
    refine ⟨_, rfl, _, _, _, _, true, rfl, .ty _, .base (.int i), kit_ty (by decide +kernel), _, rfl, iteT ?_⟩
    refine ⟨_, rfl, _, _, _, _, false, rfl, .ty _, .base (.int i), kit_ty (by decide +kernel), _, rfl, _, rfl, iteT ?_⟩
    refine ⟨_, rfl, _, rfl, rfl, ?_⟩
    rw [decide_eq_true rfl]
    exact q
theorem ok_M2 {f : Addr} {fd : FuncData} (F : Fun K "_law_same" "_law_same" sLM f fd) (B : Bi mg) (bM : Binds K fd ["_law_actual", "_law_due"] []) (gM : mg "_law_same" = some (.ref f)) : FnOk P w K mg base CX0 2 f fd ["_law_actual", "_law_due"] spM2 := by
  have G1 : FnOk P w K mg base CX0 1 f fd ["_law_actual", "_law_due"] spM1 := ok_M1 F B
  have kM := F.kp
  refine F.ok scLM (fun vs H Q E h => ?_) (fun cdv A outer s H vs Q E hr h => ?_)
  · obtain ⟨a, b, W, rfl, _⟩ := h
    rfl
  · obtain ⟨a, b, W, rfl, ea, eb, hl, q⟩ := h
    refine ⟨_, pss_cons (ps_if (pt_cmpR op_isN (pv 1) pe_non (nomark _)) (pss_one ps_never) pss_nil)
      (pss_cons (ps_if (pt_val (pe_callB call_isi (by rfl) B.isi (by decide +kernel) (pa_cons (pv 1) (pa_cons (pe_bltn (v := .ty "bool") (by rfl) B.bool (by decide +kernel) rfl) pa_nil)))) (pss_one ps_never) pss_nil)
      (pss_cons (ps_if (pt_val (pe_callB call_isi (by rfl) B.isi (by decide +kernel) (pa_cons (pv 1) (pa_cons (pe_bltn (v := .ty "int") (by rfl) B.int (by decide +kernel) rfl) pa_nil)))) (pss_one ps_never) pss_nil)
      (pss_cons (ps_if (pt_val (pe_callB call_isi (by rfl) B.isi (by decide +kernel) (pa_cons (pv 1) (pa_cons (pe_bltn (v := .ty "str") (by rfl) B.str (by decide +kernel) rfl) pa_nil)))) (pss_one ps_never) pss_nil)
      (pss_cons (ps_if (PW.pt (pw_and (pt_val (pe_callB call_isi (by rfl) B.isi (by decide +kernel) (pa_cons (pv 1) (pa_cons (pe_bltn (v := .ty "list") (by rfl) B.list (by decide +kernel) rfl) pa_nil))))
          (pw_and1 (pt_not (pt_val (pe_callB call_isi (by rfl) B.isi (by decide +kernel) (pa_cons (pv 0) (pa_cons (pe_bltn (v := .ty "list") (by rfl) B.list (by decide +kernel) rfl) pa_nil)))))))) (pss_one ps_never) pss_nil)
      (pss_cons (ps_if (PW.pt (pw_and (pt_val (pe_callB call_isi (by rfl) B.isi (by decide +kernel) (pa_cons (pv 1) (pa_cons (pe_bltn (v := .ty "tuple") (by rfl) B.tuple (by decide +kernel) rfl) pa_nil))))
          (pw_and1 (pt_not (pt_val (pe_callB call_isi (by rfl) B.isi (by decide +kernel) (pa_cons (pv 0) (pa_cons (pe_bltn (v := .ty "tuple") (by rfl) B.tuple (by decide +kernel) rfl) pa_nil)))))))) (pss_one ps_never) pss_nil)
      (pss_cons (ps_if (pt_cmpR op_ne (pe_callB call_len_seq (by rfl) B.len PySem.boot_len (pa_cons (pv 0) pa_nil)) (pe_callB call_len_seq (by rfl) B.len PySem.boot_len (pa_cons (pv 1) pa_nil)) (nomark _)) (pss_one ps_never) pss_nil)
      (pss_cons (ps_for PassesOwn.never rfl (pi_range1 (by rfl) B.range (pa_cons (pe_callB call_len_seq (by rfl) B.len PySem.boot_len (pa_cons (pv 1) pa_nil)) pa_nil)) (pg_name (i := 2) scLM.nd rfl (.inl rfl))
        (pss_one (ps_if (pt_not (pt_val (pe_call G1 hr (by rfl) gM kM bM .nil pass0 (pa_cons (pe_ix ix_list (pv 0) (pv 2) (fun _ _ => rfl)) (pa_cons (pe_ix ix_list (pv 1) (pv 2) (fun _ _ => rfl)) pa_nil))))) (pss_one ps_never) pss_nil)))
      (pss_one (ps_ret pe_bl))))))))), ?_⟩
    refine ⟨_, rfl, rfl, _, rfl, iteF ?_⟩
    refine ⟨_, rfl, _, _, _, _, false, rfl, .ty _, .base (.lst eb), kit_ty (by decide +kernel), _, rfl, iteF ?_⟩
    refine ⟨_, rfl, _, _, _, _, false, rfl, .ty _, .base (.lst eb), kit_ty (by decide +kernel), _, rfl, iteF ?_⟩
    refine ⟨_, rfl, _, _, _, _, false, rfl, .ty _, .base (.lst eb), kit_ty (by decide +kernel), _, rfl, iteF ?_⟩
    refine ⟨_, rfl, _, _, _, _, true, rfl, .ty _, .base (.lst eb), kit_ty (by decide +kernel), _, rfl, iteT ?_⟩
    refine ⟨_, rfl, _, _, _, _, true, rfl, .ty _, .base (.lst ea), kit_ty (by decide +kernel), _, rfl, iteF ?_⟩
    refine ⟨_, rfl, _, _, _, _, false, rfl, .ty _, .base (.lst eb), kit_ty (by decide +kernel), _, rfl, iteF (iteF ?_)⟩
    refine ⟨_, rfl, a, _, rfl, .inl (SqL.of ea), _, rfl, b, _, rfl, .inl (SqL.of eb), rfl, _, rfl, ?_⟩
    refine iteNS rfl ?_
    refine ⟨_, rfl, b, _, rfl, .inl (SqL.of eb), _, rfl, ?_, ?_, for_it walk_rng0 (fun i σ H' => ∃ c2 : Option V, σ = [some (.ref a), some (.ref b), c2] ∧ H' = H) ⟨none, rfl, rfl⟩ (fun _ _ _ _ _ => trivial) ?_ ?_⟩
    · rw [List.length_map]; omega
    · rw [List.length_map]; omega
    · rintro i x σ H1 H2 hi ⟨c2, rfl, rfl⟩ ⟨rfl, rfl⟩
      rw [List.length_map] at hi
      have hi : i < W.length := by omega
      have hv : W[i]? = some W[i] := List.getElem?_eq_getElem hi
      refine ⟨_, rfl, _, rfl, a, _, _, _, rfl, rfl, SqL.of ea, atI_nat (ints_get hv), _, rfl, _, rfl, b, _, _, _, rfl, rfl, SqL.of eb, atI_nat (ints_get hv), W[i], rfl, _, rfl, iteF ⟨_, rfl, rfl⟩⟩
    · rintro σ H1 ⟨c2, rfl, rfl⟩
      exact q
end
end G
/-! GLO: _law_points. -/
namespace G
open PySem PySem.Spec PyProof.Rows L2 TL GM
abbrev nLO : List Str := ["_law_patterns_here", "_law_exceptions_here", "_law_left", "_law_right", "_law_word", "_law_dotted", "_law_places", "_law_pattern_here", "_law_signs_here", "_law_numbers_here", "_law_start", "_law_k", "_law_marked", "_law_exception", "_law_at", "_law_part"]
theorem scLO : FnScope nLO ["_law_patterns_here", "_law_exceptions_here", "_law_left", "_law_right", "_law_word"] (defScope sLO) := ⟨rfl, rfl, rfl, by decide +kernel, rfl, by decide +kernel, by decide +kernel⟩
def spLO (K : PySem.W.Frag) : Sp := fun vs H Q _ => ∃ (a b : Addr) (l r : Int) (w : List Nat) (ls xs : List (List Nat)) (T : Tab) (X : List (List (List Nat))), vs = [.ref a, .ref b, .int l, .int r, .str (Tx w)] ∧ SqL K H a (SL ls) ∧ SqL K H b (SL xs) ∧
  Zp PatR ls T ∧ Zp Div xs X ∧ ls.length ≤ 1000 ∧ xs.length ≤ 1000 ∧ w.length ≤ 1000 ∧ ∀ H' p W, Same H H' → H p = none → WL T X l r w W → W.length ≤ 2000 → H' p = some (.lst (W.map V.int)) → Q (.ref p) H'
section
variable {P : Program} {w : World} {K : PySem.W.Frag} {mg : Str → Option Value} {base : Heap}
theorem ok_LO {f fP : Addr} {fd fdP : FuncData} (F : Fun K "_law_points" "_law_points" sLO f fd) (B : Bi mg) (GP : FnOk P w K mg base CX0 1 fP fdP ["_law_pattern_here"] spLP) (kP : PySem.W.keepIn K (.ref fP) = true) (bP : Binds K fdP ["_law_pattern_here"] []) (gP : mg "_law_parts" = some (.ref fP)) :
    FnOk P w K mg base CX0 2 f fd ["_law_patterns_here", "_law_exceptions_here", "_law_left", "_law_right", "_law_word"] (spLO K) := by
  refine F.ok scLO (fun vs H Q E h => ?_) (fun cdv A outer s H vs Q E hr h => ?_)
  · obtain ⟨a, b, l, r, wd, ls, xs, T, X, rfl, _⟩ := h
    rfl
  · obtain ⟨a, b, l, r, wd, ls, xs, T, X, rfl, hA, hB0, zT, zX, l1, l2, hlen, q⟩ := h
    refine ⟨_, pss_cons (ps_set (i := 5) scLO.nd rfl (.inl rfl) (pe_op op_add_str (pe_op op_add_str pe_str (pv 4)) pe_str))
      (pss_cons (ps_set (i := 6) scLO.nd rfl (.inr rfl) (pe_op op_rep (pe_lst (pa_cons pe_int pa_nil)) (pe_op op_add (pe_callB call_len_str (by rfl) B.len PySem.boot_len (pa_cons (pv 5) pa_nil)) pe_int)))
      (pss_cons (ps_for PassesOwn.never rfl (pi_list (pv 0)) (pg_name (i := 7) scLO.nd rfl (.inl rfl))
        (pss_cons (ps_asg (pe_call GP hr (by rfl) gP kP bP .nil pass0 (pa_cons (pv 7) pa_nil)) (pg_unl rfl (pgs_cons (pg_name (i := 8) scLO.nd rfl (.inl rfl)) (pgs_cons (pg_name (i := 9) scLO.nd rfl (.inl rfl)) pgs_nil))))
        (pss_one (ps_for PassesOwn.never rfl (pi_range1 (by rfl) B.range (pa_cons (pe_op op_add (pe_op op_sub (pe_callB call_len_str (by rfl) B.len PySem.boot_len (pa_cons (pv 5) pa_nil)) (pe_callB call_len_str (by rfl) B.len PySem.boot_len (pa_cons (pv 8) pa_nil))) pe_int) pa_nil)) (pg_name (i := 10) scLO.nd rfl (.inl rfl))
          (pss_one (ps_if (pt_cmpR op_eq (pe_slice sl_str (pv 5) (po_some (pv 10)) (po_some (pe_op op_add (pv 10) (pe_callB call_len_str (by rfl) B.len PySem.boot_len (pa_cons (pv 8) pa_nil))))) (pv 8) (nomark _))
            (pss_one (ps_for PassesOwn.never rfl (pi_range1 (by rfl) B.range (pa_cons (pe_callB call_len_seq (by rfl) B.len PySem.boot_len (pa_cons (pv 9) pa_nil)) pa_nil)) (pg_name (i := 11) scLO.nd rfl (.inl rfl))
              (pss_one (ps_asg (pe_callB (call_max2 rfl) (by rfl) B.max (by decide +kernel) (pa_cons (pe_ix ix_list (pv 6) (pe_op op_add (pv 10) (pv 11)) (fun _ _ => rfl)) (pa_cons (pe_ix ix_list (pv 9) (pv 11) (fun _ _ => rfl)) pa_nil))) (pg_sub (pv 6) (pe_op op_add (pv 10) (pv 11)) set_list))))) pss_nil))))))
      (pss_cons (ps_setLc (i := 12) (own := [("_law_k", 11)]) (g := gName 11) rfl scLO.nd rfl rfl (sw_true rfl rfl rfl (by decide +kernel))
          (pi_range1 (by rfl) B.range (pa_cons (pe_op op_add (pe_callB call_len_str (by rfl) B.len PySem.boot_len (pa_cons (pv 4) pa_nil)) pe_int) pa_nil))
          (blkOk_by (own := [("_law_k", 11)]) (N := nLO) (sc := defScope sLO) (by decide +kernel))
          (fun _ _ _ _ _ => pg_name (i := 11) scLO.nd rfl (Or.inl rfl))
          (fun _ _ _ _ _ => pts_one (pt_cmpR op_eq (pe_op op_mod (pe_callTy (T := "int") call_int1 (by rfl) B.int (by decide +kernel) (pa_cons (pe_ix (show IxR _ (rIxL K) from ix_list) (pv 6) (pe_op op_add (pv 11) pe_int) (fun _ _ => rfl)) pa_nil)) pe_int) pe_int (nomark _)))
          (fun _ _ _ _ _ => pv 11))
      (pss_cons (ps_for PassesOwn.never rfl (pi_list (pv 1)) (pg_name (i := 13) scLO.nd rfl (.inl rfl))
        (pss_one (ps_if (pt_cmpR op_eq (pe_join pe_str (pe_split (pv 13) pe_str)) (pv 4) (nomark _))
          (pss_cons (ps_set (i := 12) scLO.nd rfl (.inl rfl) (pe_lst pa_nil))
          (pss_cons (ps_set (i := 14) scLO.nd rfl (.inl rfl) pe_int)
          (pss_one (ps_for PassesOwn.never rfl (pi_list (pe_slice sl_list (pe_split (pv 13) pe_str) po_none (po_some (pe_un un_neg pe_int)))) (pg_name (i := 15) scLO.nd rfl (.inl rfl))
            (pss_cons (ps_set (i := 14) scLO.nd rfl (.inl rfl) (pe_op op_add (pv 14) (pe_callB call_len_str (by rfl) B.len PySem.boot_len (pa_cons (pv 15) pa_nil))))
            (pss_one (ps_expr (pe_bm PySem.F.plainAttrs_list PySem.F.slot_list_append PySem.F.type_list_append mt_append (pv 12) (pa_cons (pv 14) pa_nil))))))))) pss_nil)))
      (pss_one (ps_ret (pe_lc (own := [("_law_k", 11)]) (g := gName 11) rfl scLO.nd (pi_list (pv 12)) (blkOk_by (own := [("_law_k", 11)]) (N := nLO) (sc := defScope sLO) (by decide +kernel))
        (fun _ _ _ _ _ => pg_name (i := 11) scLO.nd rfl (Or.inl rfl))
        (fun _ _ _ _ _ => pts_one (pt_chain op_le op_le (pv 2) (pv 11) (pe_op op_sub (pe_callB call_len_str (by rfl) B.len PySem.boot_len (pa_cons (pv 4) pa_nil)) (pv 3))))
        (fun _ _ _ _ _ => pv 11)))))))), ?_⟩
    refine ⟨_, rfl, _, _, rfl, rfl, ?_, _, _, rfl, rfl, ?_, ?_⟩
    · rw [dot_eq, Tx_len, Tx_len]
      exact small1002 (by show 1 + wd.length ≤ _; omega)
    · rw [dot_eq, Tx_app, Tx_len, Tx_len]
      exact small1002 (by rw [List.length_append]; show 1 + wd.length + 1 ≤ _; omega)
    rw [dot_word]
    have hD : (dotted wd).length = wd.length + 2 := dotted_len wd
    have hDl : (Tx (dotted wd)).length ≤ sizeLine := by rw [Tx_len, hD]; exact small1002 (by omega)
    refine ⟨(by show 1 ≤ sizeLine; decide), fun f0 nf0 => ?_⟩
    refine ⟨_, rfl, _, rfl, hDl, _, _, rfl, rfl, f0, _, _, rfl, rfl, upd_same, ?_, ?_, ?_, fun f nf => ?_⟩
    · rw [Tx_len]; omega
    · rw [Tx_len]; omega
    · rw [Tx_len, hD]
      exact small1002 (by show 1 * _ ≤ _; omega)
    have e0 : ((((Tx (dotted wd)).length : Nat) : Int) + 1).toNat = wd.length + 3 := by
      rw [Tx_len, hD]; omega
    rw [e0, repl_ints]
    have s1 : Same H (upd (upd H f0 (.lst [.int 0])) f (.lst ((List.replicate (wd.length + 3) (0 : Int)).map V.int))) := (same_upd nf0).trans (same_upd nf)
    have nf : H f = none := (same_upd nf0).free nf
    have e1 : (upd (upd H f0 (.lst [.int 0])) f (.lst ((List.replicate (wd.length + 3) (0 : Int)).map V.int))) f = some (.lst ((List.replicate (wd.length + 3) (0 : Int)).map V.int)) := upd_same
    revert s1 e1
    generalize (upd (upd H f0 (.lst [.int 0])) f (.lst ((List.replicate (wd.length + 3) (0 : Int)).map V.int))) = H1
    intro s1 e1
    refine ⟨_, rfl, a, rfl, ⟨_, s1.seq hA⟩, for_list (K := K) (a := a) (xs := SL ls) (fun i σ H' => ∃ (F : List Int) (c7 c8 c9 c10 c11 : Option V), σ = [some (.ref a), some (.ref b), some (.int l), some (.int r), some (.str (Tx wd)), some (.str (Tx (dotted wd))), some (.ref f), c7, c8, c9, c10, c11, none, none, none, none] ∧ Same H H' ∧
        H' f = some (.lst (F.map V.int)) ∧ F.length = wd.length + 3 ∧ Bst (ML (T.take i) (dotted wd)) F)
      ⟨_, none, none, none, none, none, rfl, s1, e1, List.length_replicate, (Bst.start _).congr b1_zero⟩ (fun i σ H' _ ⟨_, _, _, _, _, _, _, sm, _⟩ => sm.seq hA) ?_ ?_⟩
    · rintro i x σ H2 hx ⟨F, c7, c8, c9, c10, c11, rfl, s2, e2, hF, hB⟩
      obtain ⟨u, hu, rfl⟩ := SL_at hx
      obtain ⟨e, he, hR, hl1, hp1, hp2⟩ := zT.get hu
      refine ⟨_, rfl, u, e.1, e.2, rfl, hl1, hR, fun H3 t n s3 nt nn et en => ?_⟩
      refine ⟨t, _, rfl, SqL.of et, rfl, _, _, rfl, _, _, rfl, rfl, ?_⟩
      have hel : (Tx e.1).length ≤ sizeLine := by rw [Tx_len]; exact small1002 (by omega)
      have hen := hR.len
      have nnf : n ≠ f := fun z => by
        rw [z, e2] at nn
        cases nn
      have e3 := s3 _ _ e2
      refine ⟨_, rfl, _, rfl, hDl, _, rfl, _, rfl, hel, _, _, rfl, rfl, _, _, rfl, rfl, _, rfl, ?_, ?_, for_it walk_rng0 (fun j σ H' => ∃ (F : List Int) (c10 c11 : Option V), σ = [some (.ref a), some (.ref b), some (.int l), some (.int r), some (.str (Tx wd)), some (.str (Tx (dotted wd))), some (.ref f), some (.str (Tx u)), some (.str (Tx e.1)), some (.ref n), c10, c11, none, none, none, none] ∧ Same H H' ∧
          H' n = some (.lst (e.2.map V.int)) ∧ H' f = some (.lst (F.map V.int)) ∧ F.length = wd.length + 3 ∧ Bst (B2 (T.take i) (dotted wd) e j) F)
        ⟨F, c10, c11, rfl, s2.trans s3, en, e3, hF, hB.congr b2_zero⟩ (fun _ _ _ _ _ => trivial) ?_ ?_⟩
      · rw [Tx_len, Tx_len]; omega
      · rw [Tx_len, Tx_len]; omega
      · rintro j x σ H4 H5 hj ⟨F, c10, c11, rfl, s4, en, e4, hF, hB⟩ ⟨rfl, rfl⟩
        have hj : j + e.1.length ≤ (dotted wd).length := by
          rw [Tx_len, Tx_len] at hj
          omega
        refine ⟨_, rfl, _, rfl, _, rfl, _, rfl, _, rfl, _, rfl, hel, _, _, rfl, rfl, _, rfl, _, rfl, hDl, ?_⟩
        rw [show ((j : Nat) : Int) + (((Tx e.1).length : Nat) : Int) = ((j + e.1.length : Nat) : Int) by rw [Tx_len]; omega, cut_text (dotted wd) (Nat.le_add_right _ _) hj]
        refine ⟨_, rfl, rfl, _, rfl, ite2 (fun ho => ?_) (fun ho => ?_)⟩
        · have ho : OnAt (dotted wd) e.1 j := on_sub.mp (Tx_inj (V.str.inj (of_decide_eq_true ho)))
          refine ⟨_, rfl, n, _, rfl, .inl (SqL.of en), _, rfl, ?_, ?_, for_it walk_rng0 (fun k σ H' => ∃ (F : List Int) (c11 : Option V), σ = [some (.ref a), some (.ref b), some (.int l), some (.int r), some (.str (Tx wd)), some (.str (Tx (dotted wd))), some (.ref f), some (.str (Tx u)), some (.str (Tx e.1)), some (.ref n), some (.int (j : Nat)), c11, none, none, none, none] ∧ Same H H' ∧
              H' n = some (.lst (e.2.map V.int)) ∧ H' f = some (.lst (F.map V.int)) ∧ F.length = wd.length + 3 ∧ Bst (B3 (T.take i) (dotted wd) e j k) F)
            ⟨F, c11, rfl, s4, en, e4, hF, hB.congr (b3_zero j)⟩ (fun _ _ _ _ _ => trivial) ?_ ?_⟩
          · rw [List.length_map]; omega
          · rw [List.length_map]; omega
          · rintro k x σ H6 H7 hk ⟨F, c11, rfl, s6, en, e6, hF, hB⟩ ⟨rfl, rfl⟩
            rw [List.length_map] at hk
            have hk : k < e.2.length := by omega
            have hm : e.2[k]? = some e.2[k] := List.getElem?_eq_getElem hk
            have hjk : j + k < F.length := by omega
            have hv : F[j + k]? = some F[j + k] := List.getElem?_eq_getElem hjk
            have ez : ((j : Nat) : Int) + ((k : Nat) : Int) = ((j + k : Nat) : Int) := by omega
            refine ⟨_, rfl, _, rfl, _, rfl, _, _, rfl, rfl, f, _, _, _, rfl, rfl, SqL.of e6, at_of ez (ints_get hv), _, rfl, _, rfl, n, _, _, _, rfl, rfl, SqL.of en, atI_nat (ints_get hm), _, _, rfl, _, rfl, _, rfl, _, rfl, _, _, rfl, rfl, f, _, _, j + k, rfl, rfl, e6, ?_, ?_⟩
            · rw [ez, List.length_map]
              exact ixN_nat hjk
            · refine ⟨F.set (j + k) (if e.2[k] > F[j + k] then e.2[k] else F[j + k]), _, rfl, same_put s6 nf, ?_, ?_, ?_, (hB.put hv e.2[k]).congr (b3_succ hm)⟩
              · rw [upd_ne nnf]
                exact en
              · rw [upd_same, List.map_set]
              · rw [List.length_set]
                exact hF
          · rintro σ H6 ⟨F, c11, rfl, s6, en, e6, hF, hB⟩
            rw [List.length_map, Int.toNat_natCast] at hB
            exact ⟨F, _, c11, rfl, s6, en, e6, hF, hB.congr (b3_end ho hj)⟩
        · have ho : ¬ OnAt (dotted wd) e.1 j := fun z => ho (decide_eq_true (by rw [on_sub.mpr z]))
          exact ⟨F, _, c11, rfl, s4, en, e4, hF, hB.congr (b2_no ho)⟩
      · rintro σ H4 ⟨F, c10, c11, rfl, s4, en, e4, hF, hB⟩
        refine ⟨F, _, _, _, c10, c11, rfl, s4, e4, hF, ?_⟩
        rw [take_snoc he]
        refine hB.congr (b2_end fun s' hs => ?_)
        rw [Tx_len, Tx_len]
        omega
    · rintro σ H2 ⟨F, c7, c8, c9, c10, c11, rfl, s2, e2, hF, hB⟩
      rw [SL_len, List.take_of_length_le (by rw [← zT.len]; exact Nat.le_refl _)] at hB
      refine ⟨_, rfl, _, rfl, (by rw [Tx_len]; exact small1002 (by omega)), _, _, rfl, rfl, _, rfl, (by rw [Tx_len]; omega), (by rw [Tx_len]; omega), fun D nD => lc_it walk_rng0 (fun i H' => Same H2 H' ∧ H' D = some (.lst ((odds F i).map V.int)))
        ⟨same_upd nD, upd_same⟩ (fun _ _ _ _ => trivial) ?_ ?_⟩
      · rintro i x H3 H4 hi ⟨s3, eD⟩ ⟨rfl, rfl⟩
        rw [Tx_len] at hi
        have hi : i < wd.length + 1 := by omega
        have hv : F[i + 1]? = some F[i + 1] := List.getElem?_eq_getElem (by omega)
        have hodd : oddP F i = decide (F[i + 1] % 2 = 1) := by
          unfold oddP
          rw [List.getD_eq_getElem?_getD, hv]
          rfl
        refine ⟨rfl, ?_⟩
        refine ⟨_, rfl, _, rfl, _, _, rfl, rfl, f, _, _, _, rfl, rfl, SqL.of (s3 _ _ e2), at_of (show ((i : Nat) : Int) + 1 = ((i + 1 : Nat) : Int) by omega) (ints_get hv), .inl ⟨_, rfl, _, _, rfl, rfl, (by show (0 : Int) < 2; decide), rfl, _, rfl, ite2 (fun ho => ?_) (fun ho => ?_)⟩⟩
        · have hp : oddP F i = true := hodd.trans (decide_eq_true (V.int.inj (of_decide_eq_true ho)))
          refine ⟨_, rfl, _, eD, ?_, same_put s3 nD, ?_⟩
          · rw [List.length_map]
            have := odds_len F i
            exact small1001 (by omega)
          · rw [upd_same, odds_yes hp, List.map_append]
            rfl
        · have hp : oddP F i = false := hodd.trans (decide_eq_false fun z => ho (decide_eq_true (congrArg V.int z)))
          refine ⟨s3, ?_⟩
          rw [odds_no hp]
          exact eD
      · rintro H3 ⟨s3, eD⟩
        rw [Tx_len, show (((wd.length : Nat) : Int) + 1).toNat = wd.length + 1 by omega] at eD
        have s03 : Same H H3 := s2.trans s3
        refine ⟨_, rfl, b, rfl, ⟨_, s03.seq hB0⟩, for_list (K := K) (a := b) (xs := SL xs) (fun i σ H' => ∃ (m : Addr) (c13 c14 c15 : Option V), σ = [some (.ref a), some (.ref b), some (.int l), some (.int r), some (.str (Tx wd)), some (.str (Tx (dotted wd))), some (.ref f), c7, c8, c9, c10, c11, some (.ref m), c13, c14, c15] ∧ Same H H' ∧
            H' m = some (.lst ((mark wd (X.take i) (odds F (wd.length + 1))).map V.int)))
          ⟨D, none, none, none, rfl, s03, eD⟩ (fun i σ H' _ ⟨_, _, _, _, _, sm, _⟩ => sm.seq hB0) ?_ ?_⟩
        · rintro i x σ H4 hx ⟨m, c13, c14, c15, rfl, s4, em⟩
          obtain ⟨u, hu, rfl⟩ := SL_at hx
          obtain ⟨ps, hps, hd⟩ := zX.get hu
          obtain ⟨hdl, hdn, hdo, hd1, hd2, hd3⟩ := id hd
          have hul : (Tx u).length + 2 ≤ sizeLine := by rw [Tx_len]; exact small1002 (by omega)
          refine ⟨⟨_, rfl⟩, _, rfl, ⟨_, rfl⟩, _, _, rfl, rfl, (by decide +kernel), hul, fun p1 np1 => ?_⟩
          rw [Div.split hd]
          refine ⟨_, p1, ps.map Tx, rfl, rfl, .inl (SqL.of upd_same), ?_, ?_⟩
          · rw [lens_sum, empty_eq, Tx_len]
            show _ + _ * 0 ≤ _
            omega
          rw [join_empty]
          have s5 : Same H (upd H4 p1 (.lst (SL ps))) := s4.trans (same_upd np1)
          have em5 : (upd H4 p1 (.lst (SL ps))) m = some (.lst ((mark wd (X.take i) (odds F (wd.length + 1))).map V.int)) := (same_upd np1) _ _ em
          show _
          refine ⟨_, rfl, rfl, _, rfl, ite2 (fun ho => ?_) (fun ho => ?_)⟩
          · have ho : ps.flatten = wd := Tx_inj (V.str.inj (of_decide_eq_true ho))
            refine ⟨Nat.zero_le _, fun m2 nm2 => ?_⟩
            have nm0 : H m2 = none := s5.free nm2
            refine ⟨_, rfl, ⟨_, rfl⟩, _, _, rfl, rfl, (by decide +kernel), hul, fun p2 np2 => ?_⟩
            rw [Div.split hd]
            refine ⟨1, rfl, -1, rfl, p2, _, rfl, SqL.of upd_same, fun c nc => ?_⟩
            have hh : cutV (List.map V.str (List.map Tx ps)) none (some (-1)) = SL ps.dropLast := by
              rw [cut_last]
              exact SL_dropLast ps
            rw [hh]
            have np2m : p2 ≠ m2 := fun z => by
              rw [z, upd_same] at np2
              cases np2
            have ncp : c ≠ p2 := fun z => by
              rw [z, upd_same] at nc
              cases nc
            rw [upd_ne ncp] at nc
            have ncm : c ≠ m2 := fun z => by
              rw [z, upd_same] at nc
              cases nc
            have s6 : Same H (upd (upd (upd (upd H4 p1 (.lst (SL ps))) m2 (.lst [])) p2 (.lst (SL ps))) c (.lst (SL ps.dropLast))) := by
              refine Same.trans ((s5.trans (same_upd nm2)).trans (same_upd np2)) (same_upd ?_)
              rw [upd_ne ncp]
              exact nc
            refine ⟨c, rfl, ⟨_, SqL.of upd_same⟩, for_list (K := K) (a := c) (xs := SL ps.dropLast) (fun j σ H' => ∃ (z : Int) (acc : List Int) (c15 : Option V), σ = [some (.ref a), some (.ref b), some (.int l), some (.int r), some (.str (Tx wd)), some (.str (Tx (dotted wd))), some (.ref f), c7, c8, c9, c10, c11, some (.ref m2), some (.str (Tx u)), some (.int z), c15] ∧
                Same H H' ∧ H' c = some (.lst (SL ps.dropLast)) ∧ H' m2 = some (.lst (acc.map V.int)) ∧ acc ++ cum z (ps.dropLast.drop j) = cum 0 ps.dropLast ∧ acc.length = j)
              ⟨0, [], c15, rfl, s6, upd_same, (by rw [upd_ne ncm.symm, upd_ne np2m.symm, upd_same]; rfl), by rw [List.drop_zero]; rfl, rfl⟩ (fun j σ H' _ ⟨_, _, _, _, _, ec, _⟩ => SqL.of ec) ?_ ?_⟩
            · rintro j x σ H7 hx ⟨z, acc, c15, rfl, s7, ec, en, hc, ha⟩
              obtain ⟨p, hp', rfl⟩ := SL_at hx
              have hj : j < ps.dropLast.length := (List.getElem?_eq_some_iff.mp hp').1
              have hj2 : j < 1000 := by
                rw [List.length_dropLast] at hj
                omega
              refine ⟨_, rfl, _, rfl, _, rfl, ?_, _, _, rfl, rfl, ?_⟩
              · rw [Tx_len]
                refine small1002 ?_
                have h1 : p ∈ ps := List.dropLast_subset ps (List.mem_of_getElem? hp')
                have : p.length ≤ ps.flatten.length := (List.sublist_flatten_of_mem h1).length_le
                omega
              · rw [Tx_len]
                refine ⟨_, rfl, .inl ⟨rfl, _, SqL.of en⟩, _, rfl, m2, _, _, rfl, rfl, en, ?_, ?_⟩
                · rw [List.length_map]
                  exact small1001 (by omega)
                · refine ⟨z + (p.length : Int), acc ++ [z + (p.length : Int)], some (.str (Tx p)), rfl, same_put s7 nm0, ?_, ?_, ?_, ?_⟩
                  · rw [upd_ne ncm]
                    exact ec
                  · rw [upd_same, List.map_append]
                    rfl
                  · rw [cum_drop hp'] at hc
                    rw [List.append_assoc]
                    exact hc
                  · rw [List.length_append, ha]
                    rfl
            · rintro σ H7 ⟨z, acc, c15, rfl, s7, ec, en, hc, ha⟩
              rw [SL_len, List.drop_of_length_le (Nat.le_refl _)] at hc
              have hc : acc ++ [] = cum 0 ps.dropLast := hc
              rw [List.append_nil] at hc
              subst hc
              refine ⟨m2, _, _, c15, rfl, s7, ?_⟩
              rw [take_snoc hps, mark_snoc, if_pos ho]
              exact en
          · have ho : ¬ ps.flatten = wd := fun z => ho (decide_eq_true (by rw [z]))
            refine ⟨m, _, c14, c15, rfl, s5, ?_⟩
            rw [take_snoc hps, mark_snoc, if_neg ho]
            exact em5
        · rintro σ H4 ⟨m, c13, c14, c15, rfl, s4, em⟩
          rw [SL_len, List.take_of_length_le (by rw [← zX.len]; exact Nat.le_refl _)] at em
          have hM : (mark wd X (odds F (wd.length + 1))).length ≤ 1001 := mark_len wd 1001 X _ (fun ps hps => by
            obtain ⟨u, _, hd⟩ := zX.mem hps
            have := hd.2.2.2.2.1
            omega) (by have := odds_len F (wd.length + 1); omega)
          revert em hM
          generalize hg : mark wd X (odds F (wd.length + 1)) = M
          intro em hM
          refine ⟨_, rfl, m, rfl, ⟨_, SqL.of em⟩, fun D2 nD2 => lc_list (xs := M.map V.int) (fun i H' => Same H4 H' ∧ H' D2 = some (.lst ((kept l r wd.length (M.take i)).map V.int)))
            ⟨same_upd nD2, upd_same⟩ (fun i H' _ p => p.1.seq (SqL.of em)) ?_ ?_⟩
          · rintro i x H5 hx ⟨s5, eD⟩
            obtain ⟨y, hy, rfl⟩ := ints_at hx
            have hi : i < M.length := (List.getElem?_eq_some_iff.mp hy).1
            refine ⟨rfl, ?_⟩
            refine ⟨_, rfl, _, rfl, _, _, rfl, rfl, _, rfl, ite2 (fun h1 => ?_) (fun h1 => ?_)⟩
            · have h1 : l ≤ y := of_decide_eq_true h1
              refine ⟨_, rfl, _, rfl, (by rw [Tx_len]; exact small1002 (by omega)), _, rfl, _, _, rfl, rfl, _, _, rfl, rfl, _, rfl, ?_⟩
              rw [Tx_len]
              refine ite2 (fun h2 => ?_) (fun h2 => ?_)
              · have h2 : y ≤ (wd.length : Int) - r := of_decide_eq_true h2
                refine ⟨_, rfl, _, eD, ?_, same_put s5 nD2, ?_⟩
                · rw [List.length_map]
                  have h3 := kept_len l r wd.length (M.take i)
                  rw [List.length_take] at h3
                  exact small1001 (by omega)
                · rw [upd_same, kept_yes hy ⟨h1, h2⟩, List.map_append]
                  rfl
              · have h2 : ¬ y ≤ (wd.length : Int) - r := fun z => h2 (decide_eq_true z)
                refine ⟨s5, ?_⟩
                rw [kept_no hy fun z => h2 z.2]
                exact eD
            · have h1 : ¬ l ≤ y := fun z => h1 (decide_eq_true z)
              refine ⟨_, rfl, iteF ⟨s5, ?_⟩⟩
              rw [kept_no hy fun z => h1 z.1]
              exact eD
          · rintro H5 ⟨s5, eD⟩
            rw [List.length_map, List.take_of_length_le (Nat.le_refl _)] at eD
            refine q H5 D2 _ (s4.trans s5) (s4.free nD2) ⟨F, hF, hB, by rw [hg]⟩ ?_ eD
            have := kept_len l r wd.length M
            omega
end
end G
/-! GRe: x.replace(y, z) where the receiver's place is reckoned with a number: a token is out by then. -/
namespace G
open PySem PySem.Spec PyProof.Rows L2 TL GM
/-- an expression behind which a token is out -/
def PEP (X : Cx) (e : Expr) (t : TE) : Prop := ∀ (pins : List (Addr × Obj)) (s : Shared) (σ : L2.St) (H : Hp) (Q : VK), Inv X pins σ H s → t σ H Q →
  wpAny (model X.prog X.w) X.A (eval e X.env) (fun v s1 => 1 ≤ s1.toks ∧ EP X pins σ Q v s1) X.xe s
section
variable {X : Cx} {a b o : Expr} {ta tb to : TE} {pos : Pos}
theorem pep_int {i j} : PEP X (.Constant (.int i) j pos) (tC (.int i)) := fun pins s σ H Q I h => wpAny_Constant_int ⟨Nat.le_add_left 1 s.toks, .int i, H, I.tok _, ⟨_, rfl⟩, h⟩
theorem pep_op {op : Operator} {r : R2} (ho : OpR X (binaryOp op) r) (ha : PE X a ta) (hb : PEP X b tb) : PEP X (.BinOp a op b pos) (tOp r ta tb) := by
  intro pins s σ H Q I h
  refine wpAny_BinOp (thn (ha.run pins s σ H _ I h) fun v s1 ⟨x, H1, I1, r1, q1⟩ => ?_)
  refine wpAny_mono (hb pins s1 σ H1 _ I1 q1) (fun u s2 q => ?_) fun _ _ z => z
  obtain ⟨hk, y, H2, I2, r2, q2⟩ := q
  exact wpAny_mono (PySem.wpAny_toks_of hk (ho pins s2 σ H2 x y v u Q I2 r1 r2 q2)) (fun _ _ z => z) fun _ _ z => z.2
theorem pep_ix {r : R2} (hr : IxR X r) (ha : PE X a ta) (hb : PEP X b tb) (hs : PlainIx b) : PEP X (.Subscript a b pos) (tOp r ta tb) := by
  intro pins s σ H Q I h
  refine Subscript_ (thn (ha.run pins s σ H _ I h) fun v s1 ⟨x, H1, I1, r1, q1⟩ => ?_)
  refine wpAny_mono (hb pins s1 σ H1 _ I1 q1) (fun u s2 q => ?_) fun _ _ z => z
  obtain ⟨hk, y, H2, I2, r2, q2⟩ := q
  exact wpAny_mono (PySem.wpAny_toks_of hk (hr a b pins s2 σ H2 x y v u Q I2 r1 r2 q2 (hs _ _))) (fun _ _ z => z) fun _ _ z => z.2
theorem pe_replP {y z : Str} {j k : Nat} {c0 c1 apos : Pos} (ho : PEP X o to) (hyz : (y == z) = false)
    (hst : starEach [.Constant (.str y) j c0, .Constant (.str z) k c1] X.env = [(false, eval (.Constant (.str y) j c0) X.env), (false, eval (.Constant (.str z) k c1) X.env)] := by rfl)
    (hbase : attributeBase o "replace" X.env (eval o X.env) = eval o X.env := by rfl) (hline : (apos.endLine == pos.line) = true := by rfl) :
    PE X (.Call (.Attribute o "replace" apos) [.Constant (.str y) j c0, .Constant (.str z) k c1] [] pos) (CwR.tReplC to y z) := by
  refine ⟨fun pins s σ H Q I h => ?_⟩
  refine PySem.Call_method2 hbase hst hline (wpAny_mono (ho pins s σ H _ I h) (fun v s1 q => ?_) fun _ _ z => z)
  obtain ⟨hk, v', H1, I1, r1, x, e1, hb, q⟩ := q
  subst e1
  obtain ⟨tx, e2⟩ := r1
  subst e2
  refine ⟨"str", _, PySem.F.plainAttrs_str, PySem.F.slot_str_replace, PySem.F.type_str_replace, typeIs_str _ _ _, (fun _ e => nomatch e), Calls.callWith_builtin rfl (Calls.evalArgs_plain (Calls.spliced_cons ?_))⟩
  refine Calls.Constant_str (Calls.spliced_cons (Calls.Constant_str (Calls.spliced_nil ?_)))
  exact PySem.SC.replace (by show s1.toks ≠ 0; omega) (by show s1.toks + 1 ≠ 0; omega) (by show s1.toks ≠ s1.toks + 1; omega) hyz hb fun t' k => ⟨.str (Txt.replace x y z), H1, I1.tok k, ⟨t', rfl⟩, q⟩
end
/-! ### the long pattern -/
def l12 : List Nat := [97, 98, 99, 97, 98, 99, 97, 98, 99, 97, 98, 99]
theorem l12_eq : ("abcabcabcabc" : Str) = Tx l12 := by decide +kernel
theorem tail_eq : ("1." : Str) = Tx [49, 46] := by decide +kernel
def lgA : List Nat := [46, 97, 98, 99, 97, 49, 98, 99, 50, 97, 98, 99, 97, 98, 99]
def lgB : List Nat := [46, 97, 98, 99, 97, 49, 98, 99, 50, 97, 98, 99, 97, 98, 99, 49, 46]
theorem ne_rep : ((("bcabcab" : Str)) == ("bca1bc2ab" : Str)) = false := by decide +kernel
theorem repA : Txt.replace (Tx ([46] ++ l12 ++ [])) (Str.ofString "bcabcab") (Str.ofString "bca1bc2ab") = Tx lgA := by decide +kernel
theorem repB : Txt.replace (Tx ([46] ++ l12 ++ [49, 46])) (Str.ofString "bcabcab") (Str.ofString "bca1bc2ab") = Tx lgB := by decide +kernel
def sgA : List Nat := 46 :: l12
def sgB : List Nat := 46 :: (l12 ++ [46])
def nsA : List Int := [0, 0, 0, 0, 0, 1, 0, 2, 0, 0, 0, 0, 0, 0]
def nsB : List Int := [0, 0, 0, 0, 0, 1, 0, 2, 0, 0, 0, 0, 0, 1, 0]
theorem readsA : Reads lgA sgA nsA := ⟨true, by decide +kernel⟩
theorem readsB : Reads lgB sgB nsB := ⟨true, by decide +kernel⟩
theorem patA : PatR lgA (sgA, nsA) := ⟨readsA, by decide, by decide, by decide⟩
theorem patB : PatR lgB (sgB, nsB) := ⟨readsB, by decide, by decide, by decide⟩
theorem long_at {r : Int} (h0 : 0 ≤ r) (h2 : r < 2) : ∃ t l sg ns, atI [V.str (Str.ofString ""), V.str (Str.ofString "1.")] r = some (.str (Tx t)) ∧ t.length ≤ 2 ∧
    Txt.replace (Tx ([46] ++ l12 ++ t)) (Str.ofString "bcabcab") (Str.ofString "bca1bc2ab") = Tx l ∧ PatR l (sg, ns) ∧ 13 ≤ sg.length := by
  rw [empty_eq, tail_eq]
  have h : r = 0 ∨ r = 1 := by omega
  rcases h with rfl | rfl
  · exact ⟨[], lgA, sgA, nsA, rfl, by decide, repA, patA, by decide⟩
  · exact ⟨[49, 46], lgB, sgB, nsB, rfl, by decide, repB, patB, by decide⟩
end G
/-! GLaw: law. -/
namespace G
open PySem PySem.Spec PyProof.Rows L2 TL GM
theorem a_eq : ("a" : Str) = Tx [97] := by decide +kernel
/-- sep.join(list) where the block's written part is K -/
theorem pe_joinK {X : Cx} {K : PySem.W.Frag} {o e : Expr} {to te : TE} {apos pos : Pos} (hK : X.K = K) (ho : PE X o to) (he : PE X e te) (hs : starEach [e] X.env = [(false, eval e X.env)] := by rfl) (hbase : attributeBase o "join" X.env (eval o X.env) = eval o X.env := by rfl) (hline : (apos.endLine == pos.line) = true := by rfl) :
    PE X (.Call (.Attribute o "join" apos) [e] [] pos) (tM1 (fun x xs H Q => ∃ a p, ∃ ys : List Str, x = .str a ∧ xs = [.ref p] ∧ (SqL K H p (ys.map V.str) ∨ SqT K H p (ys.map V.str)) ∧ (ys.map (·.length)).sum + ys.length * a.length ≤ 16777216 ∧ Q (.str (Txt.join a ys)) H) to te) := by
  subst hK
  exact pe_join ho he hs hbase hline
theorem nodup_rev {α : Type} {l : List α} (h : l.Nodup) : l.reverse.Nodup := List.pairwise_reverse.mpr (List.Pairwise.imp (fun h => h.symm) h)
theorem SL_rev (ps : List (List Nat)) : (SL ps).reverse = SL ps.reverse := by
  show ((ps.map Tx).map V.str).reverse = _
  rw [← List.map_reverse, ← List.map_reverse]
theorem PatG.r {l : List Nat} {e : List Nat × List Int} (h : PatG l e) : PatR l e := ⟨h.1, by have := h.2.1; omega, h.2.2.1, by have := h.2.2.2.1; omega⟩
/-- a word of the law -/
def Wd (x : List Nat) : Prop := Lc x ∧ x.length ≤ 1000
abbrev nLaw : List Str := ["_law_script", "_law_feed", "_law_patterns_here", "_law_exceptions_here", "_law_left", "_law_right", "_law_words", "_law_k", "_law_divider", "_law_turned", "_law_word", "_law_due", "_law_j", "_law_exception"]
theorem scLaw : FnScope nLaw ["_law_script"] (defScope sLaw) := ⟨rfl, rfl, rfl, by decide +kernel, rfl, by decide +kernel, by decide +kernel⟩
def spLaw (K : PySem.W.Frag) : Sp := fun vs H Q _ => ∃ (a : Addr) (ns : List Int), vs = [.ref a] ∧ SqL K H a (ns.map V.int) ∧ ns.length ≤ 63 ∧ ∀ H', Q (.bl true) H'
/-- a def of the text, as it is called by its name -/
structure Def (P : Program) (w : World) (K : PySem.W.Frag) (mg : Str → Option Value) (base : Heap) (x : Str) (k : Nat) (f : Addr) (fd : FuncData) (ps : List Str) (sp : Sp) : Prop where
  G : FnOk P w K mg base CX0 k f fd ps sp
  k : PySem.W.keepIn K (.ref f) = true
  b : Binds K fd ps []
  g : mg x = some (.ref f)
section
variable {P : Program} {w : World} {K : PySem.W.Frag} {mg : Str → Option Value} {base : Heap}
theorem ok_Law {f fN fK fS fX fO fM fPO fI fDP C : Addr} {fd dN dK dS dX dO dM dPO dI dDP : FuncData} (F : Fun K "law" "law" sLaw f fd) (B : Bi mg) (C0 : Cl K mg C)
    (DN : Def P w K mg base "_law_numbers" 1 fN dN ["_law_script"] (spLN K)) (DK : Def P w K mg base "_law_pick" 1 fK dK ["_law_feed", "_law_many"] spLK)
    (DS : Def P w K mg base "_law_patterns" 3 fS dS ["_law_feed", "_law_most"] spLS) (DX : Def P w K mg base "_law_exceptions" 2 fX dX ["_law_feed", "_law_most"] spLX)
    (DO : Def P w K mg base "_law_points" 2 fO dO ["_law_patterns_here", "_law_exceptions_here", "_law_left", "_law_right", "_law_word"] (spLO K)) (DM : Def P w K mg base "_law_same" 2 fM dM ["_law_actual", "_law_due"] spM2)
    (DPO : Def P w K mg base "points" 5 fPO dPO ["hyphens", "word"] (spPO K))
    (M : Mk K C fI) (GI : FnOk P w K mg base CX0 3 fI dI ["self", "hyphens"] (spDI K C)) (bI : Binds K dI ["self", "hyphens"] [])
    (GP : FnOk P w K mg base CX0 3 fDP dDP ["self", "word"] (spDP C)) (mP : Meth K C "points" fDP) (bP : Binds K dDP ["self", "word"] []) :
    FnOk P w K mg base CX0 6 f fd ["_law_script"] (spLaw K) := by
  refine F.ok scLaw (fun vs H Q E h => ?_) (fun cdv A outer s H vs Q E hr h => ?_)
  · obtain ⟨a, ns, rfl, _⟩ := h
    rfl
  · obtain ⟨sc, ns, rfl, hS, hlen, q⟩ := h
    have hr1 : Room 1 _ := hr.mono (by decide)
    have hr2 : Room 2 _ := hr.mono (by decide)
    have hr3 : Room 3 _ := hr.mono (by decide)
    have hr4 : Room 4 _ := hr.mono (by decide)
    refine ⟨_, pss_cons (ps_set (i := 1) scLaw.nd rfl (.inr rfl) (pe_call DN.G hr1 (by rfl) DN.g DN.k DN.b .nil pass0 (pa_cons (pv 0) pa_nil)))
      (pss_cons (ps_set (i := 2) scLaw.nd rfl (.inl rfl) (pe_call DS.G hr3 (by rfl) DS.g DS.k DS.b .nil pass0 (pa_cons (pv 1) (pa_cons pe_int pa_nil))))
      (C8.pss_cut (ps_if (pt_cmpR op_eq (pe_call DK.G hr1 (by rfl) DK.g DK.k DK.b .nil pass0 (pa_cons (pv 1) (pa_cons pe_int pa_nil))) pe_int (nomark _))
          (pss_cons (ps_expr (pe_bm PySem.F.plainAttrs_list PySem.F.slot_list_append PySem.F.type_list_append mt_append (pv 2) (pa_cons (pe_op op_add_str (pe_op op_add_str pe_str pe_str)
              (pe_ix ix_list (pe_lst (pa_cons pe_str (pa_cons pe_str pa_nil))) (pe_call DK.G hr1 (by rfl) DK.g DK.k DK.b .nil pass0 (pa_cons (pv 1) (pa_cons pe_int pa_nil))) (fun _ _ => rfl))) pa_nil)))
          (pss_one (ps_asg (pe_replP (pep_ix ix_list (pv 2) (pep_op op_sub (pe_callB call_len_seq (by rfl) B.len PySem.boot_len (pa_cons (pv 2) pa_nil)) pep_int) (fun _ _ => rfl)) ne_rep)
            (pg_sub (pv 2) (pe_op op_sub (pe_callB call_len_seq (by rfl) B.len PySem.boot_len (pa_cons (pv 2) pa_nil)) pe_int) set_list)))) pss_nil)
      (pss_cons (ps_set (i := 3) scLaw.nd rfl (.inl rfl) (pe_call DX.G hr2 (by rfl) DX.g DX.k DX.b .nil pass0 (pa_cons (pv 1) (pa_cons pe_int pa_nil))))
      (pss_cons (ps_set (i := 4) scLaw.nd rfl (.inl rfl) (pe_op op_add pe_int (pe_call DK.G hr1 (by rfl) DK.g DK.k DK.b .nil pass0 (pa_cons (pv 1) (pa_cons pe_int pa_nil)))))
      (pss_cons (ps_set (i := 5) scLaw.nd rfl (.inl rfl) (pe_op op_add pe_int (pe_call DK.G hr1 (by rfl) DK.g DK.k DK.b .nil pass0 (pa_cons (pv 1) (pa_cons pe_int pa_nil)))))
      (pss_cons (ps_set (i := 6) scLaw.nd rfl (.inl rfl) (pe_lst (pa_cons pe_str (pa_cons pe_str (pa_cons pe_str pa_nil)))))
      (pss_cons (ps_for PassesOwn.never rfl (pi_range1 (by rfl) B.range (pa_cons pe_int pa_nil)) (pg_name (i := 7) scLaw.nd rfl (.inl rfl))
        (pss_one (ps_expr (pe_bm PySem.F.plainAttrs_list PySem.F.slot_list_append PySem.F.type_list_append mt_append (pv 6) (pa_cons
          (pe_join pe_str (pe_lc (own := [("_law_j", 12)]) (g := gName 12) (tt := tYes) rfl scLaw.nd
            (pi_range1 (by rfl) B.range (pa_cons (pe_call DK.G hr1 (by rfl) DK.g DK.k DK.b .nil pass0 (pa_cons (pv 1) (pa_cons pe_int pa_nil))) pa_nil))
            (blkOk_by (own := [("_law_j", 12)]) (N := nLaw) (sc := defScope sLaw) (by decide +kernel))
            (fun _ _ _ _ _ => pg_name (i := 12) scLaw.nd rfl (Or.inl rfl)) (fun _ _ _ _ _ => pts_nil)
            (fun _ _ _ _ _ => pe_ix ix_str pe_str (pe_call DK.G hr1 (by rfl) DK.g DK.k DK.b .nil pass0 (pa_cons (pv 1) (pa_cons pe_int pa_nil))) (fun _ _ => rfl)))) pa_nil)))))
      (C8.pss_cut (ps_set (i := 6) scLaw.nd rfl (.inl rfl) (pe_op op_cat (pv 6) (pe_lc (own := [("_law_exception", 13)]) (g := gName 13) (tt := tYes) rfl scLaw.nd (pi_list (pv 3))
            (blkOk_by (own := [("_law_exception", 13)]) (N := nLaw) (sc := defScope sLaw) (by decide +kernel))
            (fun _ _ _ _ _ => pg_name (i := 13) scLaw.nd rfl (Or.inl rfl)) (fun _ _ _ _ _ => pts_nil)
            (fun _ _ _ _ _ => pe_joinK (K := K) rfl pe_str (pe_split (pv 13) pe_str)))))
      (pss_cons (ps_set (i := 8) scLaw.nd rfl (.inl rfl) (pe_make M GI hr4 (by rfl) C0.mgC bI .nil pass0 (pa_cons (pe_tup (pa_cons pe_str (pa_cons (pe_callTy call_list_of (by rfl) B.list (by decide +kernel) (pa_cons (pv 2) pa_nil))
          (pa_cons (pe_callTy call_list_of (by rfl) B.list (by decide +kernel) (pa_cons (pv 3) pa_nil)) (pa_cons (pv 4) (pa_cons (pv 5) pa_nil)))))) pa_nil)))
      (C8.pss_cut (ps_set (i := 9) scLaw.nd rfl (.inl rfl) (pe_tup (pa_cons pe_str (pa_cons (pe_revL (pv 2)) (pa_cons (pe_revL (pv 3)) (pa_cons (pv 4) (pa_cons (pv 5) pa_nil)))))))
      (pss_cons (ps_for PassesOwn.never rfl (pi_list (pe_op op_cat (pv 6) (pv 6))) (pg_name (i := 10) scLaw.nd rfl (.inl rfl))
        (pss_cons (ps_set (i := 11) scLaw.nd rfl (.inl rfl) (pe_call DO.G hr2 (by rfl) DO.g DO.k DO.b .nil pass0 (pa_cons (pv 2) (pa_cons (pv 3) (pa_cons (pv 4) (pa_cons (pv 5) (pa_cons (pv 10) pa_nil)))))))
        (pss_one (ps_if (PW.pt (pw_or (pt_not (pt_val (pe_call DM.G hr2 (by rfl) DM.g DM.k DM.b .nil pass0 (pa_cons (pe_meth (pv 8) C0.cl mP GP hr3 bP .nil pass0 (pa_cons (pv 10) pa_nil)) (pa_cons (pv 11) pa_nil)))))
            (pw_or1 (pt_not (pt_val (pe_call DM.G hr2 (by rfl) DM.g DM.k DM.b .nil pass0 (pa_cons (pe_call DPO.G hr (by rfl) DPO.g DPO.k DPO.b .nil pass0 (pa_cons (pv 9) (pa_cons (pv 10) pa_nil))) (pa_cons (pv 11) pa_nil))))))))
          (pss_one ps_never) pss_nil))))
      (pss_one (ps_ret pe_bl))))))))))))), ?_⟩
    refine ⟨_, rfl, sc, ns, rfl, hS, hlen, fun H1 a s1 na hA => ?_⟩
    refine ⟨_, rfl, a, 20, rfl, hA, (by decide), (by decide), fun H2 pl ls T x2 np ep zT nd lT => ?_⟩
    have npa : pl ≠ a := hA.ne np
    refine ⟨fun σ H' => ∃ (ls : List (List Nat)) (T : Tab), σ = [some (.ref sc), some (.ref a), some (.ref pl), none, none, none, none, none, none, none, none, none, none, none] ∧ Feed a H1 H' ∧
      H' pl = some (.lst (SL ls)) ∧ Zp PatR ls T ∧ (T.map Prod.fst).Nodup ∧ ls.length ≤ 101, ?_, ?_⟩
    · refine ⟨_, rfl, a, 4, rfl, x2.2, (by decide), fun H3 r x3 r0 r4 => ?_⟩
      have ep3 := x3.1 _ _ ep npa
      have zR : Zp PatR ls T := ⟨zT.len, fun i l e hl he => (zT.at_ i l e hl he).r⟩
      refine ⟨rfl, _, rfl, ite2 (fun _ => ?_) (fun _ => ?_)⟩
      · refine ⟨_, rfl, .inl ⟨rfl, _, SqL.of ep3⟩, _, _, rfl, rfl, (by decide +kernel), (by show 2 ≤ sizeLine; decide), fun p npp => ?_⟩
        have xp : Feed a H3 (upd H3 p (.lst [V.str (Str.ofString ""), V.str (Str.ofString "1.")])) := (Feed.refl x3.2).laid npp _
        have nppa : p ≠ a := x3.2.ne npp
        refine ⟨_, rfl, a, 2, rfl, xp.2, (by decide), fun H4 r' x4 r0' r2 => ?_⟩
        obtain ⟨t, l, sg, ms, hat, ht2, hrep, hpat, hsg⟩ := long_at r0' r2
        refine ⟨p, _, r', _, rfl, rfl, SqL.of (x4.1 _ _ upd_same nppa), hat, _, _, rfl, rfl, ?_, ?_⟩
        · rw [dot_eq, l12_eq, Tx_app, Tx_len, Tx_len]
          exact small1002 (by rw [List.length_append]; show 1 + 12 + t.length ≤ _; omega)
        rw [dot_eq, l12_eq, Tx_app, Tx_app]
        have ep4 := (xp.trans x4).1 _ _ ep3 npa
        refine ⟨pl, _, _, rfl, rfl, ep4, ?_, ?_⟩
        · rw [SL_len]
          exact small1001 (by omega)
        have ep5 : (upd H4 pl (.lst (SL ls ++ [.str (Tx ([46] ++ l12 ++ t))]))) pl = some (.lst (SL ls ++ [.str (Tx ([46] ++ l12 ++ t))])) := upd_same
        have x5 : Feed a H1 (upd H4 pl (.lst (SL ls ++ [.str (Tx ([46] ++ l12 ++ t))]))) := ((x2.trans x3).trans (xp.trans x4)).put np npa _
        revert ep5 x5
        generalize (upd H4 pl (.lst (SL ls ++ [.str (Tx ([46] ++ l12 ++ t))]))) = H5
        intro ep5 x5
        have hl : (SL ls ++ [V.str (Tx ([46] ++ l12 ++ t))]).length = ls.length + 1 := by
          rw [List.length_append, SL_len]
          rfl
        have ez : (((SL ls ++ [V.str (Tx ([46] ++ l12 ++ t))]).length : Nat) : Int) - 1 = ((ls.length : Nat) : Int) := by
          rw [hl]
          omega
        have hat2 : (SL ls ++ [V.str (Tx ([46] ++ l12 ++ t))])[ls.length]? = some (V.str (Tx ([46] ++ l12 ++ t))) := by
          rw [List.getElem?_append_right (by rw [SL_len]; exact Nat.le_refl _), SL_len, Nat.sub_self]
          rfl
        refine ⟨_, rfl, _, rfl, pl, _, rfl, .inl (SqL.of ep5), _, _, rfl, rfl, pl, _, _, _, rfl, rfl, SqL.of ep5, at_of ez hat2, _, rfl, ?_, ?_⟩
        · rw [Tx_len, List.length_append]
          have h9 : (Str.ofString "bca1bc2ab").length = 9 := by decide +kernel
          rw [h9]
          have : ([46] ++ l12 : List Nat).length = 13 := rfl
          rw [this]
          omega
        rw [hrep]
        refine ⟨_, rfl, _, rfl, pl, _, rfl, .inl (SqL.of ep5), _, _, rfl, rfl, pl, _, _, ls.length, rfl, rfl, ep5, ?_, ?_⟩
        · rw [ez, hl]
          exact ixN_nat (Nat.lt_succ_self _)
        · refine ⟨ls ++ [l], T ++ [(sg, ms)], rfl, x5.put np npa _, ?_, zR.snoc hpat, ?_, ?_⟩
          · rw [upd_same, SL_app]
            congr 2
            have e : ls.length = (SL ls).length := (SL_len ls).symm
            rw [e, List.set_append_right _ _ (Nat.le_refl _), Nat.sub_self]
            rfl
          · rw [List.map_append]
            refine nd_snoc nd fun hm => ?_
            obtain ⟨e, he, hes⟩ := List.mem_map.mp hm
            obtain ⟨_, _, _, _, hg⟩ := zT.mem he
            have h6 := hg.2.1
            rw [hes] at h6
            have hsg : 13 ≤ sg.length := hsg
            have h6 : sg.length ≤ 6 := h6
            omega
          · rw [List.length_append]
            show ls.length + 1 ≤ 101
            omega
      · exact ⟨ls, T, rfl, x2.trans x3, ep3, zR, nd, by omega⟩
    clear x2 ep zT nd lT
    rintro σ H3 ⟨ls, T, rfl, x3, ep, zT, nd, lT⟩
    refine ⟨_, rfl, a, 8, rfl, x3.2, (by decide), (by decide), fun H4 xl xs X x4 nxl ex zX ndX lX => ?_⟩
    have nxa : xl ≠ a := x3.2.ne nxl
    have ep4 := x4.1 _ _ ep npa
    refine ⟨_, rfl, a, 4, rfl, x4.2, (by decide), fun H5 r1 x5 _ _ => ⟨_, _, rfl, rfl, ?_⟩⟩
    have ep5 := x5.1 _ _ ep4 npa
    have ex5 := x5.1 _ _ ex nxa
    refine ⟨_, rfl, a, 4, rfl, x5.2, (by decide), fun H6 r2 x6 _ _ => ⟨_, _, rfl, rfl, ?_⟩⟩
    have ep6 := x6.1 _ _ ep5 npa
    have ex6 := x6.1 _ _ ex5 nxa
    obtain ⟨l, hl⟩ : ∃ l, l = 1 + r1 := ⟨_, rfl⟩
    obtain ⟨r, hrr⟩ : ∃ r, r = 1 + r2 := ⟨_, rfl⟩
    refine ⟨(by show 3 ≤ sizeLine; decide), fun wl nwl => ?_⟩
    have nwa : wl ≠ a := x6.2.ne nwl
    have w12 : Wd l12 := ⟨by unfold Lc l12; decide, by decide⟩
    have w0 : Wd [] := ⟨fun c h => by simp at h, by decide⟩
    have w1 : Wd [97] := ⟨by unfold Lc; decide, by decide⟩
    refine ⟨4, rfl, by decide, by decide, for_it walk_rng0 (fun k σ H' => ∃ (ws : List (List Nat)) (c7 : Option V), σ = [some (.ref sc), some (.ref a), some (.ref pl), some (.ref xl), some (.int l), some (.int r), some (.ref wl), c7, none, none, none, none, none, none] ∧ Feed a H6 H' ∧
        H' wl = some (.lst (SL ws)) ∧ (∀ x ∈ ws, Wd x) ∧ ws.length = 3 + k)
      ⟨[l12, [], [97]], none, (by rw [hl, hrr]; rfl), (Feed.refl x6.2).laid nwl _, by rw [upd_same, l12_eq, empty_eq, a_eq]; rfl, ?_, rfl⟩ (fun _ _ _ _ _ => trivial) ?_ ?_⟩
    · intro x hx
      simp only [List.mem_cons, List.not_mem_nil, or_false] at hx
      rcases hx with rfl | rfl | rfl
      · exact w12
      · exact w0
      · exact w1
    · rintro k x σ H7 H8 hk ⟨ws, c7, rfl, x7, ew, hw, lw⟩ ⟨rfl, rfl⟩
      have hk : k < 4 := hk
      refine ⟨_, rfl, .inl ⟨rfl, _, SqL.of ew⟩, ⟨_, rfl⟩, _, rfl, a, 18, rfl, x7.2, (by decide), fun H9 r' x9 q0 q18 => ?_⟩
      refine ⟨_, rfl, (by omega), (by omega), fun D nD => ?_⟩
      have nDa : D ≠ a := x9.2.ne nD
      refine lc_it walk_rng0 (fun i H' => Feed a H9 H' ∧ ∃ ps, H' D = some (.lst (SL ps)) ∧ Ones i ps) ⟨(Feed.refl x9.2).put nD nDa _, [], upd_same, Ones.nil⟩ (fun _ _ _ _ => trivial) ?_ ?_
      · rintro j x H10 H11 hj ⟨x10, ps, eD, ho⟩ ⟨rfl, rfl⟩
        refine ⟨rfl, yes (iteT ?_)⟩
        refine ⟨_, rfl, a, 5, rfl, x10.2, (by decide), fun H12 r3 x12 r0' r5 => ?_⟩
        obtain ⟨c, hc, c1, c2⟩ := abc_at r0' r5
        refine ⟨_, _, c, rfl, rfl, (by decide +kernel), hc, _, x12.1 _ _ eD nDa, ?_, (x10.trans x12).put nD nDa _, ps ++ [[c]], ?_, ho.snoc c1 c2⟩
        · rw [SL_len, ho.1]
          exact small1001 (by omega)
        · rw [upd_same, SL_app]
          rfl
      · rintro H10 ⟨x10, ps, eD, ho⟩
        refine ⟨_, D, ps.map Tx, rfl, rfl, .inl (SqL.of eD), ho.sizes (by omega), ?_⟩
        rw [join_empty]
        obtain ⟨hl', hL⟩ := ho.flat
        have x710 := x9.trans x10
        have ew10 := x710.1 _ _ ew nwa
        refine ⟨wl, _, _, rfl, rfl, ew10, ?_, ?_⟩
        · rw [SL_len]
          exact small1001 (by omega)
        · refine ⟨ws ++ [ps.flatten], _, rfl, (x7.trans x710).put nwl nwa _, ?_, fun y hy => ?_, ?_⟩
          · rw [upd_same, SL_app]
            rfl
          · rcases List.mem_append.mp hy with hy | hy
            · exact hw y hy
            · rw [List.mem_singleton.mp hy]
              exact ⟨hL, by omega⟩
          · rw [List.length_append, lw]
            rfl
    · rintro σ H7 ⟨ws, c7, rfl, x7, ew, hw, lw⟩
      have lw : ws.length = 3 + 4 := lw
      have ep7 := x7.1 _ _ ep6 npa
      have ex7 := x7.1 _ _ ex6 nxa
      refine ⟨fun σ H' => ∃ (wl : Addr) (ws : List (List Nat)), σ = [some (.ref sc), some (.ref a), some (.ref pl), some (.ref xl), some (.int l), some (.int r), some (.ref wl), c7, none, none, none, none, none, none] ∧
        H' pl = some (.lst (SL ls)) ∧ H' xl = some (.lst (SL xs)) ∧ H' wl = some (.lst (SL ws)) ∧ (∀ x ∈ ws, Wd x) ∧ ws.length ≤ 200, ?_, ?_⟩
      · refine ⟨_, rfl, _, rfl, xl, rfl, ⟨_, SqL.of ex7⟩, fun D nD => lc_list (xs := SL xs) (fun i H' => Same H7 H' ∧ H' D = some (.lst (SL ((X.map List.flatten).take i)))) ⟨same_upd nD, upd_same⟩ (fun i H' _ p => p.1.seq (SqL.of ex7)) ?_ ?_⟩
        · rintro i x H8 hx ⟨s8, eD⟩
          obtain ⟨u, hu, rfl⟩ := SL_at hx
          obtain ⟨ps, hps, hd⟩ := zX.get hu
          obtain ⟨hdl, hdn, hdo, hd1, hd2, hd3⟩ := id hd
          have hi : i < xs.length := (List.getElem?_eq_some_iff.mp hu).1
          refine ⟨rfl, yes (iteT ?_)⟩
          refine ⟨⟨_, rfl⟩, _, rfl, ⟨_, rfl⟩, _, _, rfl, rfl, (by decide +kernel), (by rw [Tx_len]; exact small1002 (by omega)), fun p1 np1 => ?_⟩
          rw [Div.split hd]
          refine ⟨_, p1, ps.map Tx, rfl, rfl, .inl (SqL.of upd_same), ?_, ?_⟩
          · rw [lens_sum, empty_eq, Tx_len]
            show _ + _ * 0 ≤ _
            omega
          rw [join_empty]
          have eD1 := (same_upd np1 (o := .lst (SL ps))) _ _ eD
          have ht : (X.map List.flatten)[i]? = some ps.flatten := by
            rw [List.getElem?_map, hps]
            rfl
          refine ⟨_, eD1, ?_, same_put (s8.trans (same_upd np1)) nD, ?_⟩
          · rw [SL_len, List.length_take]
            exact small1001 (by omega)
          · rw [upd_same, take_snoc ht, SL_app]
            rfl
        · rintro H8 ⟨s8, eD⟩
          rw [SL_len, List.take_of_length_le (by rw [List.length_map, ← zX.len]; exact Nat.le_refl _)] at eD
          refine ⟨wl, D, _, _, rfl, rfl, s8 _ _ ew, eD, ?_, fun p np => ?_⟩
          · rw [SL_len, SL_len, List.length_map, ← zX.len]
            exact small1002 (by omega)
          · refine ⟨p, ws ++ X.map List.flatten, rfl, (same_upd np) _ _ (s8 _ _ ep7), (same_upd np) _ _ (s8 _ _ ex7), ?_, fun y hy => ?_, ?_⟩
            · rw [upd_same, SL_app]
            · rcases List.mem_append.mp hy with hy | hy
              · exact hw y hy
              · obtain ⟨ps, hps, rfl⟩ := List.mem_map.mp hy
                obtain ⟨u, _, hd⟩ := zX.mem hps
                refine ⟨fun c hc => ?_, hd.2.2.2.2.2⟩
                obtain ⟨p, hp, hc⟩ := List.mem_flatten.mp hc
                exact (hd.2.2.1 p hp).2 c hc
            · rw [List.length_append, List.length_map, lw, ← zX.len]
              omega
      rintro σ H7 ⟨wl, ws, rfl, ep7, ex7, ew, hw, lw⟩
      refine ⟨_, rfl, pl, _, rfl, .inl (SqL.of ep7), fun l1 n1 => ?_⟩
      have s8 : Same H7 (upd H7 l1 (.lst (SL ls))) := same_upd n1
      refine ⟨_, rfl, xl, _, rfl, .inl (SqL.of (s8 _ _ ex7)), fun l2 n2 => ?_⟩
      have s9 : Same (upd H7 l1 (.lst (SL ls))) (upd (upd H7 l1 (.lst (SL ls))) l2 (.lst (SL xs))) := same_upd n2
      refine ⟨_, rfl, _, rfl, (by show 5 ≤ sizeLine; decide), fun t nt => ?_⟩
      have s10 : Same (upd (upd H7 l1 (.lst (SL ls))) l2 (.lst (SL xs))) (upd (upd (upd H7 l1 (.lst (SL ls))) l2 (.lst (SL xs))) t (.tup [.str "hyphens", .ref l1, .ref l2, .int l, .int r])) := same_upd nt
      intro x dx nx ndx nex
      have s11 : Same (upd (upd (upd H7 l1 (.lst (SL ls))) l2 (.lst (SL xs))) t (.tup [.str "hyphens", .ref l1, .ref l2, .int l, .int r])) (upd (upd (upd (upd (upd H7 l1 (.lst (SL ls))) l2 (.lst (SL xs))) t (.tup [.str "hyphens", .ref l1, .ref l2, .int l, .int r])) dx (.own x)) x (.ins C dx [])) := fun b o e => by
        rw [upd_ne (ne_of_none e nx), upd_ne (ne_of_none e ndx)]
        exact e
      have eL : LangAt K (upd (upd (upd H7 l1 (.lst (SL ls))) l2 (.lst (SL xs))) t (.tup [.str "hyphens", .ref l1, .ref l2, .int l, .int r])) t T X l r :=
        ⟨⟨l1, l2, ls, xs, SqT.of upd_same, SqL.of (s10 _ _ (s9 _ _ upd_same)), SqL.of (s10 _ _ upd_same), zT, zX, by omega, by omega⟩, nd, ndX⟩
      refine ⟨x, dx, t, T, X, l, r, rfl, upd_same, eL.same s11, fun H8 sx hD => ⟨rfl, ?_⟩⟩
      have s78 : Same H7 H8 := (s8.trans (s9.trans s10)).trans (Same.made nx ndx sx)
      have ep8 := s78 _ _ ep7
      have ex8 := s78 _ _ ex7
      have ew8 := s78 _ _ ew
      clear s8 s9 s10 s11 eL sx nx ndx nex nt n1 n2 s78
      refine ⟨fun σ H' => ∃ tn : Addr, σ = [some (.ref sc), some (.ref a), some (.ref pl), some (.ref xl), some (.int l), some (.int r), some (.ref wl), c7, some (.ref x), some (.ref tn), none, none, none, none] ∧
        H' pl = some (.lst (SL ls)) ∧ H' xl = some (.lst (SL xs)) ∧ H' wl = some (.lst (SL ws)) ∧ DivAt C H' x T X l r ∧ LangAt K H' tn T.reverse X.reverse l r, ?_, ?_⟩
      · refine ⟨_, rfl, pl, _, rfl, SqL.of ep8, fun m1 n1 => ?_⟩
        have s9 : Same H8 (upd H8 m1 (.lst (SL ls).reverse)) := same_upd n1
        refine ⟨_, rfl, xl, _, rfl, SqL.of (s9 _ _ ex8), fun m2 n2 => ?_⟩
        have s10 : Same (upd H8 m1 (.lst (SL ls).reverse)) (upd (upd H8 m1 (.lst (SL ls).reverse)) m2 (.lst (SL xs).reverse)) := same_upd n2
        refine ⟨_, rfl, _, rfl, (by show 5 ≤ sizeLine; decide), fun tn nt => ?_⟩
        have s11 : Same (upd (upd H8 m1 (.lst (SL ls).reverse)) m2 (.lst (SL xs).reverse)) (upd (upd (upd H8 m1 (.lst (SL ls).reverse)) m2 (.lst (SL xs).reverse)) tn (.tup [.str "hyphens", .ref m1, .ref m2, .int l, .int r])) := same_upd nt
        have sa := s9.trans (s10.trans s11)
        have eL1 := (s11 _ _ (s10 _ _ upd_same)).trans (congrArg (fun z => some (HO.lst z)) (SL_rev ls))
        have eL2 := (s11 _ _ (upd_same (H := upd H8 m1 (.lst (SL ls).reverse)) (a := m2) (o := .lst (SL xs).reverse))).trans (congrArg (fun z => some (HO.lst z)) (SL_rev xs))
        refine ⟨tn, rfl, sa _ _ ep8, sa _ _ ex8, sa _ _ ew8, hD.same sa, ⟨m1, m2, ls.reverse, xs.reverse, SqT.of upd_same, SqL.of eL1, SqL.of eL2, zT.rev, zX.rev, ?_, ?_⟩, ?_, ?_⟩
        · rw [List.length_reverse]; omega
        · rw [List.length_reverse]; omega
        · rw [List.map_reverse]
          exact nodup_rev nd
        · rw [List.map_reverse]
          exact nodup_rev ndX
      clear hD ep8 ex8 ew8
      rintro σ H9 ⟨tn, rfl, ep9, ex9, ew9, hD, hL⟩
      have fitT : ∀ e ∈ T, e.2.length = e.1.length + 1 := fun e he => by
        obtain ⟨u, _, hp⟩ := zT.mem he
        exact hp.1.len
      have fitX : ∀ ps ∈ X, ps.length ≤ 1000 := fun ps hps => by
        obtain ⟨u, _, hd⟩ := zX.mem hps
        exact hd.2.2.2.2.1
      have hl14 : ∀ e ∈ T, 1 ≤ e.1.length ∧ e.1.length ≤ 14 := fun e he => by
        obtain ⟨u, _, hp⟩ := zT.mem he
        exact ⟨hp.2.2.1, hp.2.2.2⟩
      have fit : Fit T X := ⟨fitT, fitX⟩
      have fitR : Fit T.reverse X.reverse := ⟨fun e he => fitT e (List.mem_reverse.mp he), fun ps hp => fitX ps (List.mem_reverse.mp hp)⟩
      refine ⟨_, rfl, _, rfl, wl, wl, _, _, rfl, rfl, ew9, ew9, ?_, fun c nc => ?_⟩
      · rw [SL_len]
        exact small1002 (by omega)
      rw [← SL_app]
      refine ⟨c, rfl, ⟨_, SqL.of upd_same⟩, for_list (K := K) (a := c) (xs := SL (ws ++ ws)) (fun i σ H' => ∃ (c10 c11 : Option V), σ = [some (.ref sc), some (.ref a), some (.ref pl), some (.ref xl), some (.int l), some (.int r), some (.ref wl), c7, some (.ref x), some (.ref tn), c10, c11, none, none] ∧
          Same H9 H' ∧ H' c = some (.lst (SL (ws ++ ws))))
        ⟨none, none, rfl, same_upd nc, upd_same⟩ (fun i σ H' _ ⟨_, _, _, _, ec⟩ => SqL.of ec) ?_ ?_⟩
      · rintro i y σ H10 hy ⟨c10, c11, rfl, s10, ec⟩
        obtain ⟨wd, hwd, rfl⟩ := SL_at hy
        obtain ⟨hLc, hln⟩ : Wd wd := by
          rcases List.mem_append.mp (List.mem_of_getElem? hwd) with h | h
          · exact hw wd h
          · exact hw wd h
        refine ⟨_, rfl, _, rfl, _, rfl, _, rfl, _, rfl, pl, xl, l, r, wd, ls, xs, T, X, rfl, SqL.of (s10 _ _ ep9), SqL.of (s10 _ _ ex9), zT, zX, by omega, by omega, hln, fun H11 due W s11 ndu hW hWl edue => ?_⟩
        have hD11 := hD.same (s10.trans s11)
        obtain ⟨dy, tt, e, tab, wtab, hp, _⟩ := id hD11
        refine ⟨_, rfl, x, dy, _, rfl, hp, f4_no _ _ _ _ (by decide +kernel) (by decide +kernel) (by decide +kernel) (by decide +kernel), _, rfl, x, wd, T, X, l, r, rfl, hD11, fit, hln, hLc, fun H12 p1 W1 s12 np1 h1 ep1 => ?_⟩
        obtain rfl : W1 = W := wpt_wl (fun _ => Iff.rfl) (fun _ => Iff.rfl) ndX hl14 h1 hW
        refine ⟨_, rfl, p1, due, W1, rfl, ep1, s12 _ _ edue, by omega, _, rfl, iteF ?_⟩
        refine ⟨_, rfl, _, rfl, tn, wd, T.reverse, X.reverse, l, r, rfl, hL.same (s10.trans (s11.trans s12)), fitR, hln, hLc, fun H13 p2 W2 s13 np2 h2 ep2 => ?_⟩
        obtain rfl : W2 = W1 := wpt_wl (fun _ => List.mem_reverse) (fun _ => List.mem_reverse) ndX hl14 h2 hW
        refine ⟨_, rfl, p2, due, W2, rfl, ep2, s13 _ _ (s12 _ _ edue), by omega, _, rfl, iteF ?_⟩
        exact ⟨_, _, rfl, s10.trans (s11.trans (s12.trans s13)), s13 _ _ (s12 _ _ (s11 _ _ ec))⟩
      · rintro σ H10 ⟨c10, c11, rfl, s10, ec⟩
        exact q H10
end
end G
/-! GEnd: what the top has written; the head. -/
namespace G
open PySem PySem.Spec PyProof.Rows L2 TL GM
theorem all_mk {l : PySem.W.OpenLaw} {w : World} {K : PySem.W.Frag} {h : Heap} {mg : Str → Option Value} {fa C f1 f2 f3 f4 f5 f6 f7 f8 f9 f10 f11 f12 f13 f14 f15 f16 f17 f18 : Addr} {t1 t2 t3 : Tok} (X : K.In h) (N : h.Ns mainGlobals mg) (hfa : mg "law" = some (.ref fa))
    {od1 an1 od2 an2 od3 an3 od4 an4 od5 an5 od6 an6 od7 an7 od8 an8 od9 an9 od10 an10 od11 an11 od12 an12 od13 an13 od14 an14 od15 an15 od16 an16 od17 an17 od18 an18 : Option Addr} {sl1 sl2 sl3 sl4 sl5 sl6 sl7 sl8 sl9 sl10 sl11 sl12 sl13 sl14 sl15 sl16 sl17 sl18 : Array (Option Value)} {oc1 kV1 dc1 pm1 cd1 ct1 oc2 kV2 dc2 pm2 cd2 ct2 oc3 kV3 dc3 pm3 cd3 ct3 oc4 kV4 dc4 pm4 cd4 ct4 oc5 kV5 dc5 pm5 cd5 ct5 oc6 kV6 dc6 pm6 cd6 ct6 oc7 kV7 dc7 pm7 cd7 ct7 oc8 kV8 dc8 pm8 cd8 ct8 oc9 kV9 dc9 pm9 cd9 ct9 oc10 kV10 dc10 pm10 cd10 ct10 oc11 kV11 dc11 pm11 cd11 ct11 oc12 kV12 dc12 pm12 cd12 ct12 oc13 kV13 dc13 pm13 cd13 ct13 oc14 kV14 dc14 pm14 cd14 ct14 oc15 kV15 dc15 pm15 cd15 ct15 oc16 kV16 dc16 pm16 cd16 ct16 oc17 kV17 dc17 pm17 cd17 ct17 oc18 kV18 dc18 pm18 cd18 ct18 : Value}
    (a1 : PySem.W.nsIn K mainGlobals "parse_pattern" = some (some (.ref f1)))
    (l1 : K.lookup f1 = some ⟨oc1, od1, .func (PySem.W.fnOf "parse_pattern" "parse_pattern" (defArgs sPP) (defBody sPP) (defScope sPP) .none kV1 dc1 pm1 an1 cd1 ct1), sl1⟩) (c1 : PySem.W.codeIn K cd1 "parse_pattern" = true) (k1 : PySem.W.keepIn K (.ref f1) = true)
    (a2 : PySem.W.nsIn K mainGlobals "parse_word" = some (some (.ref f2)))
    (l2 : K.lookup f2 = some ⟨oc2, od2, .func (PySem.W.fnOf "parse_word" "parse_word" (defArgs sPW) (defBody sPW) (defScope sPW) .none kV2 dc2 pm2 an2 cd2 ct2), sl2⟩) (c2 : PySem.W.codeIn K cd2 "parse_word" = true) (k2 : PySem.W.keepIn K (.ref f2) = true)
    (a3 : PySem.W.nsIn K mainGlobals "table_of" = some (some (.ref f3)))
    (l3 : K.lookup f3 = some ⟨oc3, od3, .func (PySem.W.fnOf "table_of" "table_of" (defArgs sTO) (defBody sTO) (defScope sTO) .none kV3 dc3 pm3 an3 cd3 ct3), sl3⟩) (c3 : PySem.W.codeIn K cd3 "table_of" = true) (k3 : PySem.W.keepIn K (.ref f3) = true)
    (a4 : PySem.W.nsIn K mainGlobals "numbers_of" = some (some (.ref f4)))
    (l4 : K.lookup f4 = some ⟨oc4, od4, .func (PySem.W.fnOf "numbers_of" "numbers_of" (defArgs sNO) (defBody sNO) (defScope sNO) .none kV4 dc4 pm4 an4 cd4 ct4), sl4⟩) (c4 : PySem.W.codeIn K cd4 "numbers_of" = true) (k4 : PySem.W.keepIn K (.ref f4) = true)
    (a5 : PySem.W.nsIn K mainGlobals "points" = some (some (.ref f5)))
    (l5 : K.lookup f5 = some ⟨oc5, od5, .func (PySem.W.fnOf "points" "points" (defArgs sPO) (defBody sPO) (defScope sPO) .none kV5 dc5 pm5 an5 cd5 ct5), sl5⟩) (c5 : PySem.W.codeIn K cd5 "points" = true) (k5 : PySem.W.keepIn K (.ref f5) = true)
    (a6 : PySem.W.nsIn K mainGlobals "_law_numbers" = some (some (.ref f6)))
    (l6 : K.lookup f6 = some ⟨oc6, od6, .func (PySem.W.fnOf "_law_numbers" "_law_numbers" (defArgs sLN) (defBody sLN) (defScope sLN) .none kV6 dc6 pm6 an6 cd6 ct6), sl6⟩) (c6 : PySem.W.codeIn K cd6 "_law_numbers" = true) (k6 : PySem.W.keepIn K (.ref f6) = true)
    (a7 : PySem.W.nsIn K mainGlobals "_law_pick" = some (some (.ref f7)))
    (l7 : K.lookup f7 = some ⟨oc7, od7, .func (PySem.W.fnOf "_law_pick" "_law_pick" (defArgs sLK) (defBody sLK) (defScope sLK) .none kV7 dc7 pm7 an7 cd7 ct7), sl7⟩) (c7 : PySem.W.codeIn K cd7 "_law_pick" = true) (k7 : PySem.W.keepIn K (.ref f7) = true)
    (a8 : PySem.W.nsIn K mainGlobals "_law_signs" = some (some (.ref f8)))
    (l8 : K.lookup f8 = some ⟨oc8, od8, .func (PySem.W.fnOf "_law_signs" "_law_signs" (defArgs sLG) (defBody sLG) (defScope sLG) .none kV8 dc8 pm8 an8 cd8 ct8), sl8⟩) (c8 : PySem.W.codeIn K cd8 "_law_signs" = true) (k8 : PySem.W.keepIn K (.ref f8) = true)
    (a9 : PySem.W.nsIn K mainGlobals "_law_pattern" = some (some (.ref f9)))
    (l9 : K.lookup f9 = some ⟨oc9, od9, .func (PySem.W.fnOf "_law_pattern" "_law_pattern" (defArgs sLT) (defBody sLT) (defScope sLT) .none kV9 dc9 pm9 an9 cd9 ct9), sl9⟩) (c9 : PySem.W.codeIn K cd9 "_law_pattern" = true) (k9 : PySem.W.keepIn K (.ref f9) = true)
    (a10 : PySem.W.nsIn K mainGlobals "_law_patterns" = some (some (.ref f10)))
    (l10 : K.lookup f10 = some ⟨oc10, od10, .func (PySem.W.fnOf "_law_patterns" "_law_patterns" (defArgs sLS) (defBody sLS) (defScope sLS) .none kV10 dc10 pm10 an10 cd10 ct10), sl10⟩) (c10 : PySem.W.codeIn K cd10 "_law_patterns" = true) (k10 : PySem.W.keepIn K (.ref f10) = true)
    (a11 : PySem.W.nsIn K mainGlobals "_law_exceptions" = some (some (.ref f11)))
    (l11 : K.lookup f11 = some ⟨oc11, od11, .func (PySem.W.fnOf "_law_exceptions" "_law_exceptions" (defArgs sLX) (defBody sLX) (defScope sLX) .none kV11 dc11 pm11 an11 cd11 ct11), sl11⟩) (c11 : PySem.W.codeIn K cd11 "_law_exceptions" = true) (k11 : PySem.W.keepIn K (.ref f11) = true)
    (a12 : PySem.W.nsIn K mainGlobals "_law_same" = some (some (.ref f12)))
    (l12 : K.lookup f12 = some ⟨oc12, od12, .func (PySem.W.fnOf "_law_same" "_law_same" (defArgs sLM) (defBody sLM) (defScope sLM) .none kV12 dc12 pm12 an12 cd12 ct12), sl12⟩) (c12 : PySem.W.codeIn K cd12 "_law_same" = true) (k12 : PySem.W.keepIn K (.ref f12) = true)
    (a13 : PySem.W.nsIn K mainGlobals "_law_parts" = some (some (.ref f13)))
    (l13 : K.lookup f13 = some ⟨oc13, od13, .func (PySem.W.fnOf "_law_parts" "_law_parts" (defArgs sLP) (defBody sLP) (defScope sLP) .none kV13 dc13 pm13 an13 cd13 ct13), sl13⟩) (c13 : PySem.W.codeIn K cd13 "_law_parts" = true) (k13 : PySem.W.keepIn K (.ref f13) = true)
    (a14 : PySem.W.nsIn K mainGlobals "_law_points" = some (some (.ref f14)))
    (l14 : K.lookup f14 = some ⟨oc14, od14, .func (PySem.W.fnOf "_law_points" "_law_points" (defArgs sLO) (defBody sLO) (defScope sLO) .none kV14 dc14 pm14 an14 cd14 ct14), sl14⟩) (c14 : PySem.W.codeIn K cd14 "_law_points" = true) (k14 : PySem.W.keepIn K (.ref f14) = true)
    (a15 : PySem.W.nsIn K mainGlobals "law" = some (some (.ref f15)))
    (l15 : K.lookup f15 = some ⟨oc15, od15, .func (PySem.W.fnOf "law" "law" (defArgs sLaw) (defBody sLaw) (defScope sLaw) .none kV15 dc15 pm15 an15 cd15 ct15), sl15⟩) (c15 : PySem.W.codeIn K cd15 "law" = true) (k15 : PySem.W.keepIn K (.ref f15) = true)
    (a16 : PySem.W.findIn K (.ref C) "__init__" = some (some (.ref f16))) (i16 : PySem.W.isFn K (.ref f16) = true)
    (l16 : K.lookup f16 = some ⟨oc16, od16, .func (PySem.W.fnOf "__init__" "Divider.__init__" (defArgs sDI) (defBody sDI) (defScope sDI) .none kV16 dc16 pm16 an16 cd16 ct16), sl16⟩) (c16 : PySem.W.codeIn K cd16 "Divider.__init__" = true) (k16 : PySem.W.keepIn K (.ref f16) = true)
    (a17 : PySem.W.findIn K (.ref C) "word_points" = some (some (.ref f17))) (i17 : PySem.W.isFn K (.ref f17) = true)
    (l17 : K.lookup f17 = some ⟨oc17, od17, .func (PySem.W.fnOf "word_points" "Divider.word_points" (defArgs sDW) (defBody sDW) (defScope sDW) .none kV17 dc17 pm17 an17 cd17 ct17), sl17⟩) (c17 : PySem.W.codeIn K cd17 "Divider.word_points" = true) (k17 : PySem.W.keepIn K (.ref f17) = true)
    (a18 : PySem.W.findIn K (.ref C) "points" = some (some (.ref f18))) (i18 : PySem.W.isFn K (.ref f18) = true)
    (l18 : K.lookup f18 = some ⟨oc18, od18, .func (PySem.W.fnOf "points" "Divider.points" (defArgs sDP) (defBody sDP) (defScope sDP) .none kV18 dc18 pm18 an18 cd18 ct18), sl18⟩) (c18 : PySem.W.codeIn K cd18 "Divider.points" = true) (k18 : PySem.W.keepIn K (.ref f18) = true)
    (aC : PySem.W.nsIn K mainGlobals "Divider" = some (some (.ref C)))
    (pg : PySem.W.plainGet K C Str.empty = true)
    (hd : PySem.W.hasDictIn K C = true)
    (po : PySem.W.plainOver K C = true)
    (sa : PySem.W.findIn K (.ref C) "__setattr__" = some (some (.builtin "object.__setattr__")))
    (mk : PySem.W.makesIn K C = true)
    (kc : PySem.W.keepIn K (.ref C) = true)
    (n_table : PySem.W.findIn K (.ref C) "table" = some none)
    (n_words : PySem.W.findIn K (.ref C) "words" = some none)
    (n_left : PySem.W.findIn K (.ref C) "left" = some none)
    (n_right : PySem.W.findIn K (.ref C) "right" = some none)
    (z_int : PySem.W.nsIn K mainGlobals "int" = some none)
    (z_len : PySem.W.nsIn K mainGlobals "len" = some none)
    (z_range : PySem.W.nsIn K mainGlobals "range" = some none)
    (z_min : PySem.W.nsIn K mainGlobals "min" = some none)
    (z_max : PySem.W.nsIn K mainGlobals "max" = some none)
    (z_enum : PySem.W.nsIn K mainGlobals "enumerate" = some none)
    (z_all : PySem.W.nsIn K mainGlobals "all" = some none)
    (z_str : PySem.W.nsIn K mainGlobals "str" = some none)
    (z_list : PySem.W.nsIn K mainGlobals "list" = some none)
    (z_tuple : PySem.W.nsIn K mainGlobals "tuple" = some none)
    (z_bool : PySem.W.nsIn K mainGlobals "bool" = some none)
    (z_isi : PySem.W.nsIn K mainGlobals "isinstance" = some none)
    (g1 : PySem.W.nsIn K mainGlobals "FIGURES" = some (some (.str "0123456789" t1))) (g2 : PySem.W.nsIn K mainGlobals "LETTERS" = some (some (.str "abcdefghijklmnopqrstuvwxyz" t2))) (g3 : PySem.W.nsIn K mainGlobals "LONGEST" = some (some (.int 12 t3))) :
    ∃ fd : FuncData, (∀ (s : Shared) (v : Value), BindsTo s fd ⟨[v], []⟩ [("_law_script", v)]) ∧ ∀ base : Heap, K.In base → base.Ns mainGlobals mg → FnOk l.prog w K mg base CX0 6 fa fd ["_law_script"] (spLaw K) := by
  have e := hfa.symm.trans (PySem.W.mg_of X N a15)
  cases e
  have B : Bi mg := ⟨PySem.W.mg_none_of X N z_int, PySem.W.mg_none_of X N z_len, PySem.W.mg_none_of X N z_range, PySem.W.mg_none_of X N z_min, PySem.W.mg_none_of X N z_max, PySem.W.mg_none_of X N z_enum, PySem.W.mg_none_of X N z_all, PySem.W.mg_none_of X N z_str, PySem.W.mg_none_of X N z_list, PySem.W.mg_none_of X N z_tuple, PySem.W.mg_none_of X N z_bool, PySem.W.mg_none_of X N z_isi, ⟨_, PySem.W.mg_of X N g1⟩, ⟨_, PySem.W.mg_of X N g2⟩, ⟨_, PySem.W.mg_of X N g3⟩⟩
  have C0 : Cl K mg C := ⟨⟨pg, hd, po, sa⟩, n_table, n_words, n_left, n_right, PySem.W.mg_of X N aC⟩
  have F1 := fun_mk (st := sPP) l1 c1 k1
  have b1 := F1.binds (ps := ["pattern"]) fun _ _ _ _ _ _ us hl => match us, hl with | [_], _ => rfl
  have F2 := fun_mk (st := sPW) l2 c2 k2
  have b2 := F2.binds (ps := ["word"]) fun _ _ _ _ _ _ us hl => match us, hl with | [_], _ => rfl
  have F3 := fun_mk (st := sTO) l3 c3 k3
  have b3 := F3.binds (ps := ["patterns"]) fun _ _ _ _ _ _ us hl => match us, hl with | [_], _ => rfl
  have F4 := fun_mk (st := sNO) l4 c4 k4
  have b4 := F4.binds (ps := ["table", "word"]) fun _ _ _ _ _ _ us hl => match us, hl with | [_, _], _ => rfl
  have F5 := fun_mk (st := sPO) l5 c5 k5
  have b5 := F5.binds (ps := ["hyphens", "word"]) fun _ _ _ _ _ _ us hl => match us, hl with | [_, _], _ => rfl
  have F6 := fun_mk (st := sLN) l6 c6 k6
  have b6 := F6.binds (ps := ["_law_script"]) fun _ _ _ _ _ _ us hl => match us, hl with | [_], _ => rfl
  have F7 := fun_mk (st := sLK) l7 c7 k7
  have b7 := F7.binds (ps := ["_law_feed", "_law_many"]) fun _ _ _ _ _ _ us hl => match us, hl with | [_, _], _ => rfl
  have F8 := fun_mk (st := sLG) l8 c8 k8
  have b8 := F8.binds (ps := ["_law_feed"]) fun _ _ _ _ _ _ us hl => match us, hl with | [_], _ => rfl
  have F9 := fun_mk (st := sLT) l9 c9 k9
  have b9 := F9.binds (ps := ["_law_feed", "_law_signs_here"]) fun _ _ _ _ _ _ us hl => match us, hl with | [_, _], _ => rfl
  have F10 := fun_mk (st := sLS) l10 c10 k10
  have b10 := F10.binds (ps := ["_law_feed", "_law_most"]) fun _ _ _ _ _ _ us hl => match us, hl with | [_, _], _ => rfl
  have F11 := fun_mk (st := sLX) l11 c11 k11
  have b11 := F11.binds (ps := ["_law_feed", "_law_most"]) fun _ _ _ _ _ _ us hl => match us, hl with | [_, _], _ => rfl
  have F12 := fun_mk (st := sLM) l12 c12 k12
  have b12 := F12.binds (ps := ["_law_actual", "_law_due"]) fun _ _ _ _ _ _ us hl => match us, hl with | [_, _], _ => rfl
  have F13 := fun_mk (st := sLP) l13 c13 k13
  have b13 := F13.binds (ps := ["_law_pattern_here"]) fun _ _ _ _ _ _ us hl => match us, hl with | [_], _ => rfl
  have F14 := fun_mk (st := sLO) l14 c14 k14
  have b14 := F14.binds (ps := ["_law_patterns_here", "_law_exceptions_here", "_law_left", "_law_right", "_law_word"]) fun _ _ _ _ _ _ us hl => match us, hl with | [_, _, _, _, _], _ => rfl
  have F15 := fun_mk (st := sLaw) l15 c15 k15
  have b15 := F15.binds (ps := ["_law_script"]) fun _ _ _ _ _ _ us hl => match us, hl with | [_], _ => rfl
  have F16 := fun_mk (st := sDI) l16 c16 k16
  have b16 := F16.binds (ps := ["self", "hyphens"]) fun _ _ _ _ _ _ us hl => match us, hl with | [_, _], _ => rfl
  have F17 := fun_mk (st := sDW) l17 c17 k17
  have b17 := F17.binds (ps := ["self", "word"]) fun _ _ _ _ _ _ us hl => match us, hl with | [_, _], _ => rfl
  have F18 := fun_mk (st := sDP) l18 c18 k18
  have b18 := F18.binds (ps := ["self", "word"]) fun _ _ _ _ _ _ us hl => match us, hl with | [_, _], _ => rfl
  refine ⟨PySem.W.fnOf "law" "law" (defArgs sLaw) (defBody sLaw) (defScope sLaw) .none kV15 dc15 pm15 an15 cd15 ct15, fun s v => .of_eq rfl, fun base _ _ => ?_⟩
  have GPP : FnOk l.prog w K mg base CX0 1 f1 _ _ spPP := ok_PP F1 B
  have GPW : FnOk l.prog w K mg base CX0 1 f2 _ _ spPW := ok_PW F2 B
  have GTO := ok_TO (P := l.prog) (w := w) (base := base) F3 B F1 b1 (PySem.W.mg_of X N a1)
  have GNO : FnOk l.prog w K mg base CX0 1 f4 _ _ spNO := ok_NO F4 B
  have GDI := ok_DI F16 B C0 GTO F3.kp b3 (PySem.W.mg_of X N a3) GPW F2.kp b2 (PySem.W.mg_of X N a2)
  have GDW := ok_DW F17 B C0 GNO F4.kp b4 (PySem.W.mg_of X N a4)
  have mW : Meth K C "word_points" f17 := ⟨a17, i17, k17⟩
  have mP : Meth K C "points" f18 := ⟨a18, i18, k18⟩
  have GDP := ok_DP F18 B C0 GDW mW b17
  have M : Mk K C f16 := ⟨mk, a16, i16, kc⟩
  have GPO := ok_PO F5 B C0 M GDI b16 GDP mP b18
  have GLN : FnOk l.prog w K mg base CX0 1 f6 _ _ (spLN K) := ok_LN F6 B
  have GLK : FnOk l.prog w K mg base CX0 1 f7 _ _ spLK := ok_LK F7 B
  have GLG := ok_LG F8 B GLK F7.kp b7 (PySem.W.mg_of X N a7)
  have GLT := ok_LT F9 B GLK F7.kp b7 (PySem.W.mg_of X N a7)
  have GLS := ok_LS F10 B GLK F7.kp b7 (PySem.W.mg_of X N a7) GLG F8.kp b8 (PySem.W.mg_of X N a8) GLT F9.kp b9 (PySem.W.mg_of X N a9)
  have GLX := ok_LX F11 B GLK F7.kp b7 (PySem.W.mg_of X N a7)
  have GLM := ok_M2 (P := l.prog) (w := w) (base := base) F12 B b12 (PySem.W.mg_of X N a12)
  have GLP : FnOk l.prog w K mg base CX0 1 f13 _ _ spLP := ok_LP F13 B
  have GLO := ok_LO F14 B GLP F13.kp b13 (PySem.W.mg_of X N a13)
  exact ok_Law F15 B C0 ⟨GLN, F6.kp, b6, (PySem.W.mg_of X N a6)⟩ ⟨GLK, F7.kp, b7, (PySem.W.mg_of X N a7)⟩ ⟨GLS, F10.kp, b10, (PySem.W.mg_of X N a10)⟩ ⟨GLX, F11.kp, b11, (PySem.W.mg_of X N a11)⟩ ⟨GLO, F14.kp, b14, (PySem.W.mg_of X N a14)⟩ ⟨GLM, F12.kp, b12, (PySem.W.mg_of X N a12)⟩ ⟨GPO, F5.kp, b5, (PySem.W.mg_of X N a5)⟩ M GDI b16 GDP mP b18
end G
open PySem PySem.W PyProof.Rows
set_option maxRecDepth 100000 in
set_option maxHeartbeats 0 in
theorem PySem.Challenge.cw_galleypapers_k34_whole_points_of_words_holds : PySem.Challenge.rw_galleypapers_k34_whole_points_of_words.Holds := by
  w_on; o_law; k_head; (case hw => w_witness2)
  k_fill
  refine L2.walk_of (l := PySem.Challenge.rw_galleypapers_k34_whole_points_of_words) (n := 63) (k := 6) (x := "_law_script") (CX := fun _ => L2.CX0) (sp := fun w => G.spLaw _) rfl (by decide) rfl ⟨rfl, by decide, by decide⟩ (fun w h Y => PySem.W.kIn_of Y) ?F (fun _ _ a ns hl _ hS => ⟨a, ns, rfl, hS, hl, fun _ => rfl⟩) (fun _ _ _ _ _ h => h)
  case F =>
    intro w mg fa h KX N hmg
    have hfa : mg "law" = some (.ref fa) := hmg
    clear hmg
    refine' G.all_mk KX N hfa ?a1 ?l1 ?c1 ?k1 ?a2 ?l2 ?c2 ?k2 ?a3 ?l3 ?c3 ?k3 ?a4 ?l4 ?c4 ?k4 ?a5 ?l5 ?c5 ?k5 ?a6 ?l6 ?c6 ?k6 ?a7 ?l7 ?c7 ?k7 ?a8 ?l8 ?c8 ?k8 ?a9 ?l9 ?c9 ?k9 ?a10 ?l10 ?c10 ?k10 ?a11 ?l11 ?c11 ?k11 ?a12 ?l12 ?c12 ?k12 ?a13 ?l13 ?c13 ?k13 ?a14 ?l14 ?c14 ?k14 ?a15 ?l15 ?c15 ?k15 ?a16 ?i16 ?l16 ?c16 ?k16 ?a17 ?i17 ?l17 ?c17 ?k17 ?a18 ?i18 ?l18 ?c18 ?k18 ?aC ?pg ?hd ?po ?sa ?mk ?kc ?n_table ?n_words ?n_left ?n_right ?z_int ?z_len ?z_range ?z_min ?z_max ?z_enum ?z_all ?z_str ?z_list ?z_tuple ?z_bool ?z_isi ?g1 ?g2 ?g3
    (case aC => k_is)
    (case a1 => k_is)
    (case l1 => k_is)
    (case c1 => k_is)
    (case k1 => k_is)
    (case a2 => k_is)
    (case l2 => k_is)
    (case c2 => k_is)
    (case k2 => k_is)
    (case a3 => k_is)
    (case l3 => k_is)
    (case c3 => k_is)
    (case k3 => k_is)
    (case a4 => k_is)
    (case l4 => k_is)
    (case c4 => k_is)
    (case k4 => k_is)
    (case a5 => k_is)
    (case l5 => k_is)
    (case c5 => k_is)
    (case k5 => k_is)
    (case a6 => k_is)
    (case l6 => k_is)
    (case c6 => k_is)
    (case k6 => k_is)
    (case a7 => k_is)
    (case l7 => k_is)
    (case c7 => k_is)
    (case k7 => k_is)
    (case a8 => k_is)
    (case l8 => k_is)
    (case c8 => k_is)
    (case k8 => k_is)
    (case a9 => k_is)
    (case l9 => k_is)
    (case c9 => k_is)
    (case k9 => k_is)
    (case a10 => k_is)
    (case l10 => k_is)
    (case c10 => k_is)
    (case k10 => k_is)
    (case a11 => k_is)
    (case l11 => k_is)
    (case c11 => k_is)
    (case k11 => k_is)
    (case a12 => k_is)
    (case l12 => k_is)
    (case c12 => k_is)
    (case k12 => k_is)
    (case a13 => k_is)
    (case l13 => k_is)
    (case c13 => k_is)
    (case k13 => k_is)
    (case a14 => k_is)
    (case l14 => k_is)
    (case c14 => k_is)
    (case k14 => k_is)
    (case a15 => k_is)
    (case l15 => k_is)
    (case c15 => k_is)
    (case k15 => k_is)
    (case a16 => k_is)
    (case i16 => k_is)
    (case l16 => k_is)
    (case c16 => k_is)
    (case k16 => k_is)
    (case a17 => k_is)
    (case i17 => k_is)
    (case l17 => k_is)
    (case c17 => k_is)
    (case k17 => k_is)
    (case a18 => k_is)
    (case i18 => k_is)
    (case l18 => k_is)
    (case c18 => k_is)
    (case k18 => k_is)
    (case pg => k_is)
    (case hd => k_is)
    (case po => k_is)
    (case sa => k_is)
    (case mk => k_is)
    (case kc => k_is)
    (case n_table => k_is)
    (case n_words => k_is)
    (case n_left => k_is)
    (case n_right => k_is)
    (case z_int => k_is)
    (case z_len => k_is)
    (case z_range => k_is)
    (case z_min => k_is)
    (case z_max => k_is)
    (case z_enum => k_is)
    (case z_all => k_is)
    (case z_str => k_is)
    (case z_list => k_is)
    (case z_tuple => k_is)
    (case z_bool => k_is)
    (case z_isi => k_is)
    (case g1 => k_is)
    (case g2 => k_is)
    (case g3 => k_is)
