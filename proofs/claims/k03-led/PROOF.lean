import PyProof.Rows.All
import Wide.All
import OpenK.AllK
import Wide.FinOn
import HandS.ForMost
import HandS.IsInst
import HandS.EndBits
import HandS.SortInts
import HandS.Evl
import PySem.Challenge.RW_threadslide_k03_led_back
set_option Elab.async false
set_option linter.all false
set_option maxRecDepth 100000
set_option maxHeartbeats 4000000

namespace TS
/-- the word of a link to a cell -/
def lk (p : Nat) : Int := 2 * (p : Int) + 1
theorem lk_odd (p : Nat) : lk p % 2 = 1 := by unfold lk; omega
theorem lk_half (p : Nat) : lk p / 2 = (p : Int) := by unfold lk; omega
theorem lk_inj {p q : Nat} (h : lk p = lk q) : p = q := by unfold lk at h; omega

/-- from the cell h a chain of links goes through cs, and the last cell holds w -/
def Chain (C : List Int) : Nat → List Nat → Int → Prop
  | h, [], w => C[h]? = some w
  | h, c :: cs, w => C[h]? = some (lk c) ∧ Chain C c cs w
theorem Chain.frame {C C' : List Int} : ∀ {cs : List Nat} {h : Nat} {w : Int}, Chain C h cs w → (∀ i, i = h ∨ i ∈ cs → C'[i]? = C[i]?) → Chain C' h cs w
  | [], h, w, x, k => by
    show C'[h]? = some w
    rw [k h (.inl rfl)]
    exact x
  | c :: cs, h, w, x, k => by
    refine ⟨?_, Chain.frame (cs := cs) x.2 fun i hi => k i (.inr ?_)⟩
    · rw [k h (.inl rfl)]
      exact x.1
    · rcases hi with rfl | hi
      · exact List.mem_cons_self
      · exact List.mem_cons_of_mem _ hi
/-- the first cell of a chain is another one that holds the same -/
theorem Chain.move {C C' : List Int} : ∀ {cs : List Nat} {h h' : Nat} {w : Int}, Chain C h cs w → C'[h']? = C[h]? → (∀ i, i ∈ cs → C'[i]? = C[i]?) → Chain C' h' cs w
  | [], h, h', w, x, e, _ => by
    show C'[h']? = some w
    rw [e]
    exact x
  | c :: cs, h, h', w, x, e, k => by
    refine ⟨?_, x.2.frame fun i hi => k i ?_⟩
    · rw [e]
      exact x.1
    · rcases hi with rfl | hi
      · exact List.mem_cons_self
      · exact List.mem_cons_of_mem _ hi
theorem Chain.lt {C : List Int} : ∀ {cs : List Nat} {h : Nat} {w : Int}, Chain C h cs w → ∀ i, i = h ∨ i ∈ cs → i < C.length
  | [], h, w, x, i, hi => by
    rcases hi with rfl | hi
    · exact (List.getElem?_eq_some_iff.mp x).1
    · cases hi
  | c :: cs, h, w, x, i, hi => by
    rcases hi with rfl | hi
    · exact (List.getElem?_eq_some_iff.mp x.1).1
    · exact Chain.lt (cs := cs) x.2 i (List.mem_cons.mp hi)
/-- one turn of taking a chain back -/
theorem Chain.turn {C : List Int} {h c : Nat} {cs : List Nat} {w x l : Int} (k : Chain C h (c :: cs) w) (nd : (h :: c :: cs).Nodup) (hx : C[c]? = some x) : Chain ((C.set h x).set c l) h cs w := by
  have hh := k.lt h (.inl rfl)
  have n1 := List.nodup_cons.mp nd
  have n2 := List.nodup_cons.mp n1.2
  have hc : h ≠ c := fun e => n1.1 (by rw [e]; exact List.mem_cons_self)
  refine k.2.move ?_ fun i hi => ?_
  · rw [List.getElem?_set_ne (Ne.symm hc), List.getElem?_set_self hh, hx]
  · have i1 : c ≠ i := fun e => n2.1 (by rw [e]; exact hi)
    have i2 : h ≠ i := fun e => n1.1 (by rw [e]; exact List.mem_cons_of_mem _ hi)
    rw [List.getElem?_set_ne i1, List.getElem?_set_ne i2]
/-- what taking a chain back leaves -/
structure Led (C : List Int) (h : Nat) (cs : List Nat) (w l : Int) (C' : List Int) : Prop where
  len : C'.length = C.length
  head : C'[h]? = some w
  cell : ∀ c, c ∈ cs → C'[c]? = some l
  rest : ∀ i, i ≠ h → i ∉ cs → C'[i]? = C[i]?
/-- some turns of it: the cells ds are done, cs are to come -/
structure Leds (C : List Int) (h : Nat) (ds cs : List Nat) (w l : Int) (C' : List Int) : Prop where
  len : C'.length = C.length
  ch : Chain C' h cs w
  nd : (h :: cs).Nodup
  dn : ∀ c, c ∈ ds → c ∉ cs ∧ c ≠ h
  cell : ∀ c, c ∈ ds → C'[c]? = some l
  rest : ∀ i, i ≠ h → i ∉ ds → i ∉ cs → C'[i]? = C[i]?
theorem Leds.start {C : List Int} {h : Nat} {cs : List Nat} {w l : Int} (k : Chain C h cs w) (nd : (h :: cs).Nodup) : Leds C h [] cs w l C :=
  ⟨rfl, k, nd, fun _ z => (nomatch z), fun _ z => (nomatch z), fun _ _ _ _ => rfl⟩
theorem Leds.turn {C C' : List Int} {h c : Nat} {ds cs : List Nat} {w l x : Int} (k : Leds C h ds (c :: cs) w l C') (hx : C'[c]? = some x) : Leds C h (c :: ds) cs w l ((C'.set h x).set c l) := by
  have n1 := List.nodup_cons.mp k.nd
  have n2 := List.nodup_cons.mp n1.2
  have hc : h ≠ c := fun e => n1.1 (by rw [e]; exact List.mem_cons_self)
  have lc : c < C'.length := (List.getElem?_eq_some_iff.mp hx).1
  refine ⟨by simp [k.len], k.ch.turn k.nd hx, List.nodup_cons.mpr ⟨fun z => n1.1 (List.mem_cons_of_mem _ z), n2.2⟩, fun d hd => ?_, fun d hd => ?_, fun i h1 h2 h3 => ?_⟩
  · rcases List.mem_cons.mp hd with rfl | hd
    · exact ⟨n2.1, hc.symm⟩
    · exact ⟨fun z => (k.dn d hd).1 (List.mem_cons_of_mem _ z), (k.dn d hd).2⟩
  · by_cases e : d = c
    · subst e
      rw [List.getElem?_set_self (by simpa using lc)]
    · rcases List.mem_cons.mp hd with q | hd
      · exact absurd q e
      · rw [List.getElem?_set_ne (Ne.symm e), List.getElem?_set_ne (Ne.symm (k.dn d hd).2)]
        exact k.cell d hd
  · have e : i ≠ c := fun q => h2 (by rw [q]; exact List.mem_cons_self)
    rw [List.getElem?_set_ne (Ne.symm e), List.getElem?_set_ne (Ne.symm h1)]
    refine k.rest i h1 (fun z => h2 (List.mem_cons_of_mem _ z)) fun z => ?_
    rcases List.mem_cons.mp z with q | z
    · exact e q
    · exact h3 z
theorem Leds.done {C C' : List Int} {h : Nat} {ds : List Nat} {w l : Int} (k : Leds C h ds [] w l C') : Led C h ds w l C' :=
  ⟨k.len, k.ch, k.cell, fun i h1 h2 => k.rest i h1 h2 (fun z => nomatch z)⟩

/-! ### the row while it is hung up and led -/
/-- what a cell holds by its meaning: a word, or it hangs at a head -/
inductive Ct where
  | pl (x : Int) | hg (h : Nat)
  deriving DecidableEq
/-- from the cell b on: at each head of hd hang just the cells that ex says, and its word w stands at the chain's end; the others hold their words -/
structure CInv (C : List Int) (N b : Nat) (hd : Nat → Prop) (w : Nat → Int) (ex : Nat → Ct) : Prop where
  len : C.length = N
  ch : ∀ h, b ≤ h → hd h → ∃ cs, (h :: cs).Nodup ∧ (∀ c, c ∈ cs ↔ (c < N ∧ ¬ hd c ∧ ex c = .hg h)) ∧ Chain C h cs (w h)
  pl : ∀ c x, b ≤ c → c < N → ¬ hd c → ex c = .pl x → C[c]? = some x
theorem CInv.congr {C : List Int} {N b : Nat} {hd : Nat → Prop} {w : Nat → Int} {ex ex' : Nat → Ct} (k : CInv C N b hd w ex) (e : ∀ c, c < N → ¬ hd c → ex c = ex' c) : CInv C N b hd w ex' := by
  refine ⟨k.len, fun h hb hh => ?_, fun c x hb hc hn hx => k.pl c x hb hc hn ((e c hc hn).trans hx)⟩
  obtain ⟨cs, nd, hm, ch⟩ := k.ch h hb hh
  refine ⟨cs, nd, fun c => ?_, ch⟩
  rw [hm c]
  constructor
  · rintro ⟨a, b, d⟩
    exact ⟨a, b, by rw [← e c a b]; exact d⟩
  · rintro ⟨a, b, d⟩
    exact ⟨a, b, by rw [e c a b]; exact d⟩
/-- a head is led to a place -/
theorem CInv.led {C C' : List Int} {N b h : Nat} {hd : Nat → Prop} {w : Nat → Int} {ex : Nat → Ct} {cs : List Nat} {l : Int} (k : CInv C N b hd w ex) (hh : hd h)
    (hm : ∀ c, c ∈ cs ↔ (c < N ∧ ¬ hd c ∧ ex c = .hg h)) (L : Led C h cs (w h) l C') : CInv C' N b hd w (fun c => if ex c = .hg h then .pl l else ex c) := by
  refine ⟨L.len.trans k.len, fun h' hb hh' => ?_, fun c x hb hc hn hx => ?_⟩
  · by_cases e : h' = h
    · subst e
      refine ⟨[], by simp, fun c => ?_, L.head⟩
      constructor
      · intro z; cases z
      · rintro ⟨_, _, q⟩
        split at q
        · cases q
        · rename_i z; exact absurd q z
    · obtain ⟨ds, nd, hm', ch⟩ := k.ch h' hb hh'
      refine ⟨ds, nd, fun c => ?_, ch.frame fun i hi => L.rest i ?_ ?_⟩
      · rw [hm' c]
        constructor
        · rintro ⟨a, b, d⟩
          refine ⟨a, b, ?_⟩
          rw [if_neg (by rw [d]; intro z; cases z; exact e rfl)]
          exact d
        · rintro ⟨a, b, d⟩
          refine ⟨a, b, ?_⟩
          split at d
          · cases d
          · exact d
      · rcases hi with rfl | hi
        · exact e
        · intro q
          rw [q] at hi
          exact ((hm' h).mp hi).2.1 hh
      · intro z
        have z2 := (hm i).mp z
        rcases hi with rfl | hi
        · exact z2.2.1 hh'
        · have q := ((hm' i).mp hi).2.2
          rw [z2.2.2] at q
          cases q
          exact e rfl
  · have nh : c ≠ h := fun e => hn (by rw [e]; exact hh)
    by_cases e : ex c = .hg h
    · have e' : (if ex c = .hg h then Ct.pl l else ex c) = .pl l := if_pos e
      rw [e'] at hx
      cases hx
      exact L.cell c ((hm c).mpr ⟨hc, hn, e⟩)
    · have e' : (if ex c = .hg h then Ct.pl l else ex c) = ex c := if_neg e
      rw [e'] at hx
      rw [L.rest c nh fun z => e ((hm c).mp z).2.2]
      exact k.pl c x hb hc hn hx
/-- what hanging up leaves -/
def hungR (C : List Int) (c h : Nat) : List Int := (C.set c (C.getD h 0)).set h (lk c)
theorem CInv.hung {C : List Int} {N b c h : Nat} {hd : Nat → Prop} {w : Nat → Int} {ex : Nat → Ct} (k : CInv C N b hd w ex) (hb : b ≤ h) (hh : hd h) (hc : c < N) (hn : ¬ hd c) (hx : ex c = .pl (lk h)) (hN : h < N) :
    CInv (hungR C c h) N b hd w (fun i => if i = c then .hg h else ex i) := by
  have nch : c ≠ h := fun e => hn (by rw [e]; exact hh)
  have lh : h < C.length := by rw [k.len]; exact hN
  have lc : c < C.length := by rw [k.len]; exact hc
  have gh : C[h]? = some (C.getD h 0) := by
    rw [List.getElem?_eq_getElem lh, List.getD_eq_getElem?_getD, List.getElem?_eq_getElem lh]
    rfl
  have eh : (hungR C c h)[h]? = some (lk c) := by
    unfold hungR
    rw [List.getElem?_set_self (by simpa using lh)]
  have ec : (hungR C c h)[c]? = C[h]? := by
    unfold hungR
    rw [List.getElem?_set_ne (Ne.symm nch), List.getElem?_set_self lc, gh]
  have eo : ∀ i, i ≠ c → i ≠ h → (hungR C c h)[i]? = C[i]? := fun i h1 h2 => by
    unfold hungR
    rw [List.getElem?_set_ne (Ne.symm h2), List.getElem?_set_ne (Ne.symm h1)]
  refine ⟨by unfold hungR; simp [k.len], fun h' hb' hh' => ?_, fun i x hbi hi hni hxi => ?_⟩
  · obtain ⟨cs, nd, hm, ch⟩ := k.ch h' hb' hh'
    have nc : c ∉ cs := fun z => by
      have q := ((hm c).mp z).2.2
      rw [hx] at q
      cases q
    by_cases e : h' = h
    · subst e
      have n1 := List.nodup_cons.mp nd
      refine ⟨c :: cs, ?_, fun i => ?_, eh, ch.move ec fun i hi => eo i ?_ ?_⟩
      · refine List.nodup_cons.mpr ⟨fun z => ?_, List.nodup_cons.mpr ⟨nc, n1.2⟩⟩
        rcases List.mem_cons.mp z with q | z
        · exact nch q.symm
        · exact n1.1 z
      · rw [List.mem_cons, hm i]
        by_cases q : i = c
        · subst q
          rw [if_pos rfl]
          exact ⟨fun _ => ⟨hc, hn, rfl⟩, fun _ => .inl rfl⟩
        · rw [if_neg q]
          exact ⟨fun z => z.resolve_left q, .inr⟩
      · intro q
        exact nc (q ▸ hi)
      · intro q
        exact n1.1 (q ▸ hi)
    · refine ⟨cs, nd, fun i => ?_, ch.frame fun i hi => eo i ?_ ?_⟩
      · by_cases q : i = c
        · subst q
          rw [if_pos rfl]
          constructor
          · intro z; exact absurd z nc
          · rintro ⟨_, _, z⟩
            cases z
            exact absurd rfl e
        · rw [if_neg q]
          exact hm i
      · rcases hi with rfl | hi
        · intro q; exact hn (q ▸ hh')
        · intro q; exact nc (q ▸ hi)
      · rcases hi with rfl | hi
        · exact e
        · intro q
          exact ((hm h).mp (q ▸ hi)).2.1 hh
  · have hxi' : (if i = c then Ct.hg h else ex i) = .pl x := hxi
    by_cases q : i = c
    · rw [if_pos q] at hxi'
      cases hxi'
    · rw [if_neg q] at hxi'
      rw [eo i q fun z => hni (z ▸ hh)]
      exact k.pl i x hbi hi hni hxi'
/-- cells below the bound may change -/
theorem CInv.below {C C' : List Int} {N b b' : Nat} {hd : Nat → Prop} {w : Nat → Int} {ex : Nat → Ct} (k : CInv C N b hd w ex) (hb : b ≤ b') (hl : C'.length = C.length) (hs : ∀ i, b' ≤ i → C'[i]? = C[i]?)
    (hg : ∀ c h, c < N → ¬ hd c → ex c = .hg h → b' ≤ h → b' ≤ c) : CInv C' N b' hd w ex := by
  refine ⟨hl.trans k.len, fun h h1 h2 => ?_, fun c x h1 h2 h3 h4 => ?_⟩
  · obtain ⟨cs, nd, hm, ch⟩ := k.ch h (Nat.le_trans hb h1) h2
    refine ⟨cs, nd, hm, ch.frame fun i hi => hs i ?_⟩
    rcases hi with rfl | hi
    · exact h1
    · obtain ⟨a, b, d⟩ := (hm i).mp hi
      exact hg i h a b d h1
  · rw [hs c h1]
    exact k.pl c x (Nat.le_trans hb h1) h2 h3 h4
/-- the same by one cell more -/
theorem hungR_get {C : List Int} {c h : Nat} (lh : h < C.length) (lc : c < C.length) (nch : c ≠ h) :
    (hungR C c h)[h]? = some (lk c) ∧ (hungR C c h)[c]? = C[h]? ∧ ∀ i, i ≠ c → i ≠ h → (hungR C c h)[i]? = C[i]? := by
  have gh : C[h]? = some (C.getD h 0) := by
    rw [List.getElem?_eq_getElem lh, List.getD_eq_getElem?_getD, List.getElem?_eq_getElem lh]
    rfl
  unfold hungR
  refine ⟨?_, ?_, fun i h1 h2 => ?_⟩
  · rw [List.getElem?_set_self (by simpa using lh)]
  · rw [List.getElem?_set_ne (Ne.symm nch), List.getElem?_set_self lc, gh]
  · rw [List.getElem?_set_ne (Ne.symm h2), List.getElem?_set_ne (Ne.symm h1)]
theorem Chain.hung {C : List Int} {c h : Nat} {cs : List Nat} {w : Int} (k : Chain C h cs w) (nd : (h :: cs).Nodup) (lc : c < C.length) (nch : c ≠ h) (nc : c ∉ cs) : Chain (hungR C c h) h (c :: cs) w ∧ (h :: c :: cs).Nodup := by
  obtain ⟨e1, e2, e3⟩ := hungR_get (k.lt h (.inl rfl)) lc nch
  have n1 := List.nodup_cons.mp nd
  refine ⟨⟨e1, k.move e2 fun i hi => e3 i (fun q => nc (q ▸ hi)) fun q => n1.1 (q ▸ hi)⟩, ?_⟩
  refine List.nodup_cons.mpr ⟨fun z => ?_, List.nodup_cons.mpr ⟨nc, n1.2⟩⟩
  rcases List.mem_cons.mp z with q | z
  · exact nch q.symm
  · exact n1.1 z
theorem Led.hung {C D : List Int} {c h : Nat} {cs : List Nat} {w l : Int} (k : Led C h cs w l D) (lc : c < C.length) (lh : h < C.length) (nch : c ≠ h) : Led (hungR C c h) h (c :: cs) w l (D.set c l) := by
  obtain ⟨e1, e2, e3⟩ := hungR_get lh lc nch
  have lD : c < D.length := by rw [k.len]; exact lc
  refine ⟨by unfold hungR; simp [k.len], ?_, fun i hi => ?_, fun i h1 h2 => ?_⟩
  · rw [List.getElem?_set_ne nch]
    exact k.head
  · by_cases q : i = c
    · subst q
      exact List.getElem?_set_self lD
    · rw [List.getElem?_set_ne (Ne.symm q)]
      exact k.cell i ((List.mem_cons.mp hi).resolve_left q)
  · have q : i ≠ c := fun z => h2 (by rw [z]; exact List.mem_cons_self)
    rw [List.getElem?_set_ne (Ne.symm q), e3 i q h1]
    exact k.rest i h1 fun z => h2 (List.mem_cons_of_mem _ z)
theorem Led.uniq {C D D' : List Int} {h : Nat} {cs : List Nat} {w l : Int} (k : Led C h cs w l D) (k' : Led C h cs w l D') : D = D' := by
  refine List.ext_getElem? fun i => ?_
  by_cases q : i = h
  · rw [q, k.head, k'.head]
  · by_cases z : i ∈ cs
    · rw [k.cell i z, k'.cell i z]
    · rw [k.rest i q z, k'.rest i q z]
end TS

namespace Mine
open PySem PySem.Spec PyProof.Rows L2 TS
/-! ### the text -/
def topS (i : Nat) : Stmt := PySem.Challenge.pw_threadslide_k03_led_back.main.body.getD i (.Pass ⟨0, 0, 0, 0⟩)
abbrev s_link_word : Stmt := topS 1
theorem sc_link_word : FnScope ["place"] ["place"] (defScope s_link_word) := ⟨rfl, rfl, rfl, by decide +kernel, rfl, by decide +kernel, by decide +kernel⟩
abbrev s_is_link : Stmt := topS 2
theorem sc_is_link : FnScope ["word"] ["word"] (defScope s_is_link) := ⟨rfl, rfl, rfl, by decide +kernel, rfl, by decide +kernel, by decide +kernel⟩
abbrev s_told_by : Stmt := topS 3
theorem sc_told_by : FnScope ["word"] ["word"] (defScope s_told_by) := ⟨rfl, rfl, rfl, by decide +kernel, rfl, by decide +kernel, by decide +kernel⟩
abbrev s_led : Stmt := topS 5
theorem sc_led : FnScope ["row", "head", "place", "cells", "at"] ["row", "head", "place"] (defScope s_led) := ⟨rfl, rfl, rfl, by decide +kernel, rfl, by decide +kernel, by decide +kernel⟩
abbrev s_l_at : Stmt := topS 7
theorem sc_l_at : FnScope ["_law_script", "_law_place"] ["_law_script", "_law_place"] (defScope s_l_at) := ⟨rfl, rfl, rfl, by decide +kernel, rfl, by decide +kernel, by decide +kernel⟩
abbrev s_l_is_int : Stmt := topS 8
theorem sc_l_is_int : FnScope ["_law_value"] ["_law_value"] (defScope s_l_is_int) := ⟨rfl, rfl, rfl, by decide +kernel, rfl, by decide +kernel, by decide +kernel⟩
abbrev s_l_words_are : Stmt := topS 9
theorem sc_l_words_are : FnScope ["_law_found", "_law_due", "_law_k"] ["_law_found", "_law_due"] (defScope s_l_words_are) := ⟨rfl, rfl, rfl, by decide +kernel, rfl, by decide +kernel, by decide +kernel⟩
abbrev s_l_number : Stmt := topS 10
theorem sc_l_number : FnScope ["_law_seed"] ["_law_seed"] (defScope s_l_number) := ⟨rfl, rfl, rfl, by decide +kernel, rfl, by decide +kernel, by decide +kernel⟩
abbrev s_law : Stmt := topS 11
theorem sc_law : FnScope ["_law_script", "_law_size", "_law_row", "_law_k", "_law_head", "_law_place", "_law_step", "_law_cells", "_law_due", "_law_chain", "_law_seen", "_law_at_here", "_law_handed", "_law_found"] ["_law_script"] (defScope s_law) := ⟨rfl, rfl, rfl, by decide +kernel, rfl, by decide +kernel, by decide +kernel⟩
/-- where the defs stand -/
structure Adr where
  f_link_word : Addr
  d_link_word : FuncData
  f_is_link : Addr
  d_is_link : FuncData
  f_told_by : Addr
  d_told_by : FuncData
  f_led : Addr
  d_led : FuncData
  f_l_at : Addr
  d_l_at : FuncData
  f_l_is_int : Addr
  d_l_is_int : FuncData
  f_l_words_are : Addr
  d_l_words_are : FuncData
  f_l_number : Addr
  d_l_number : FuncData
  f_law : Addr
  d_law : FuncData
/-- what the top has written -/
structure Txt (K : PySem.W.Frag) (mg : Str → Option Value) (A : Adr) : Prop where
  F_link_word : Fun K "link_word" "link_word" s_link_word A.f_link_word A.d_link_word
  b_link_word : Binds K A.d_link_word ["place"] []
  m_link_word : mg "link_word" = some (.ref A.f_link_word)
  F_is_link : Fun K "is_link" "is_link" s_is_link A.f_is_link A.d_is_link
  b_is_link : Binds K A.d_is_link ["word"] []
  m_is_link : mg "is_link" = some (.ref A.f_is_link)
  F_told_by : Fun K "told_by" "told_by" s_told_by A.f_told_by A.d_told_by
  b_told_by : Binds K A.d_told_by ["word"] []
  m_told_by : mg "told_by" = some (.ref A.f_told_by)
  F_led : Fun K "led" "led" s_led A.f_led A.d_led
  b_led : Binds K A.d_led ["row", "head", "place"] []
  m_led : mg "led" = some (.ref A.f_led)
  F_l_at : Fun K "_law_at" "_law_at" s_l_at A.f_l_at A.d_l_at
  b_l_at : Binds K A.d_l_at ["_law_script", "_law_place"] []
  m__law_at : mg "_law_at" = some (.ref A.f_l_at)
  F_l_is_int : Fun K "_law_is_int" "_law_is_int" s_l_is_int A.f_l_is_int A.d_l_is_int
  b_l_is_int : Binds K A.d_l_is_int ["_law_value"] []
  m__law_is_int : mg "_law_is_int" = some (.ref A.f_l_is_int)
  F_l_words_are : Fun K "_law_words_are" "_law_words_are" s_l_words_are A.f_l_words_are A.d_l_words_are
  b_l_words_are : Binds K A.d_l_words_are ["_law_found", "_law_due"] []
  m__law_words_are : mg "_law_words_are" = some (.ref A.f_l_words_are)
  F_l_number : Fun K "_law_number" "_law_number" s_l_number A.f_l_number A.d_l_number
  b_l_number : Binds K A.d_l_number ["_law_seed"] []
  m__law_number : mg "_law_number" = some (.ref A.f_l_number)
  F_law : Fun K "law" "law" s_law A.f_law A.d_law
  b_law : Binds K A.d_law ["_law_script"] []
  m_law : mg "law" = some (.ref A.f_law)
  z_int : mg "int" = none
  z_isinstance : mg "isinstance" = none
  z_len : mg "len" = none
  z_list : mg "list" = none
  z_range : mg "range" = none
local macro_rules | `(tactic| walk_at "rd") => `(tactic| repeat (first | refine ⟨rfl, ?_⟩ | refine ⟨_, rfl, ?_⟩ | refine ⟨IntMulOk.of_left (by decide), ?_⟩ | refine ⟨IntMulOk.of_right (by decide), ?_⟩ | refine ⟨⟨by decide, by decide⟩, ?_⟩ | refine ⟨(by show (0 : Int) < _; decide), ?_⟩ | refine ⟨_, _, rfl, rfl, ?_⟩ | refine ⟨_, _, rfl, ?_⟩))
section
variable {P : Program} {w : World} {K : PySem.W.Frag} {mg : Str → Option Value} {base : Heap} {A : Adr}
theorem same_upd {H : Hp} {p : Addr} {o : HO} (h : H p = none) : Same H (upd H p o) := fun b x e => by
  rw [upd_ne (ne_of_none e h)]
  exact e
/-- a new object may change -/
theorem same_mut {H H' : Hp} {p : Addr} {o : HO} (h : H p = none) (e : Same H H') : Same H (upd H' p o) := fun b x q => by
  rw [upd_ne (ne_of_none q h)]
  exact e b x q
theorem op_mulB {X : Cx} : OpR X (binaryOp .Mult) (rI IntMulOk fun i j => .int (i * j)) := opI fun _ _ _ _ _ _ _ hc q => mul_int q hc
theorem op_isnotB {X : Cx} : OpR X (compareOp .IsNot) (fun x y H Q => ∃ b : Bool, y = .bl b ∧ (∀ a, x ≠ .ref a) ∧ Q (.bl (!decide (x = .bl b))) H) := by
  intro pins s σ H x y v u Q I rx ry h
  obtain ⟨b, rfl, nr, q⟩ := h
  cases (show u = Value.bool b from ry)
  by_cases e : x = .bl b
  · subst e
    cases (show v = Value.bool b from rx)
    exact wpAny_isNot_self rfl ⟨.bl false, H, I, rfl, by simpa using q⟩
  · have nv : v ≠ Value.bool b := fun z => e (RelV.inj rx (by rw [z]; exact rfl))
    refine wpAny_isNot_other ?_ nv ⟨.bl true, H, I, rfl, by simpa [e] using q⟩
    cases x with
    | non => cases rx; rfl
    | bl _ => cases rx; rfl
    | int _ => obtain ⟨t, rfl⟩ := rx; rfl
    | str _ => obtain ⟨t, rfl⟩ := rx; rfl
    | byt _ => obtain ⟨t, rfl⟩ := rx; rfl
    | flt _ => obtain ⟨t, rfl⟩ := rx; rfl
    | ref a => exact absurd rfl (nr a)
    | ty _ => cases rx; rfl
section
variable {X : Cx} {K : PySem.W.Frag}
theorem ix_listK (e : X.K = K) : IxR X (rIxL K) := by subst e; exact ix_list
theorem ix_tupK (e : X.K = K) : IxR X (rIxT K) := by subst e; exact ix_tup
theorem sl_listK (e : X.K = K) : SlR X (rSlL K) := by subst e; exact sl_list
def rLen (K : PySem.W.Frag) : List V → Hp → VK → Prop := fun xs H Q => ∃ p ys, xs = [.ref p] ∧ (SqL K H p ys ∨ SqT K H p ys) ∧ Q (.int ys.length) H
def rListOf (K : PySem.W.Frag) : List V → Hp → VK → Prop := fun xs H Q => ∃ p ys, xs = [.ref p] ∧ (SqL K H p ys ∨ SqT K H p ys) ∧ ∀ l, H l = none → Q (.ref l) (upd H l (.lst ys))
theorem call_lenK (e : X.K = K) : CallR X (.builtin "len") (rLen K) := by subst e; exact call_len_seq
theorem call_list_ofK (e : X.K = K) : CallR X (.type "list") (rListOf K) := by subst e; exact call_list_of
theorem call_isiK (e : X.K = K) : CallR X (.builtin "isinstance") (rIsi K) := by subst e; exact call_isi
theorem cr_sumK (e : X.K = K) (hc : X.calm = true) : CallR X (.builtin "sum") (rSum K) := by subst e; exact cr_sum hc
theorem cr_sortedK (e : X.K = K) : CallR X (.builtin "sorted") (rSortedI K) := by subst e; exact cr_sortedI
theorem op_inK (e : X.K = K) : OpR X (compareOp .In) (rIn K false) := by subst e; exact op_in_seq
theorem op_notInK (e : X.K = K) : OpR X (compareOp .NotIn) (rIn K true) := by subst e; exact op_notIn_seq
theorem op_eqDK (e : X.K = K) (hu : X.A.units + 64 < cLine) : OpR X (compareOp .Eq) (rEqD K) := by subst e; exact op_eqD hu
theorem op_neDK (e : X.K = K) (hu : X.A.units + 64 < cLine) : OpR X (compareOp .NotEq) (rNeD K) := by subst e; exact op_neD hu
theorem pi_listK {tg l : Expr} {tl : TE} (e : X.K = K) (hl : PE X l tl) : PI X tg l (iList K tl) := by subst e; exact pi_list hl
theorem pi_tupK {tg l : Expr} {tl : TE} (e : X.K = K) (hl : PE X l tl) : PI X tg l (iTup K tl) := by subst e; exact pi_tup hl
theorem pe_fldK {o : Expr} {f : Str} {pos : Pos} {ta : TE} (e : X.K = K) (he : PE X o ta) (hb : attributeBase o f X.env (eval o X.env) = eval o X.env) : PE X (.Attribute o f pos) (tFld K ta f) := by subst e; exact pe_fld he hb
end
theorem ifF {c : Bool} {A B : Prop} (hc : c = false) (h : B) : if c = true then A else B := by
  subst hc
  rw [if_neg Bool.false_ne_true]
  exact h
theorem ifT {c : Bool} {A B : Prop} (hc : c = true) (h : A) : if c = true then A else B := by
  subst hc
  rw [if_pos rfl]
  exact h
theorem tyx_list {K : PySem.W.Frag} {H : Hp} {a : Addr} {xs : List V} (h : SqL K H a xs) : TyX K H (.ref a) (.type "list") := by
  rcases h with (h | ⟨o, h⟩) | ⟨o, its, n, h, hc, _⟩
  · exact .base (.lst h)
  · exact .base (.frz h)
  · exact .kList h hc
theorem sz2000 {n : Nat} (h : n ≤ 100000) : n ≤ sizeLine := Nat.le_trans h (by decide)
theorem sz2001 {n : Nat} (h : n ≤ 100000) : n < sizeLine := Nat.lt_of_le_of_lt h (by decide)
theorem at_int {xs : List Int} {i : Nat} {x : Int} (h : xs[i]? = some x) : atI (xs.map V.int) (i : Int) = some (.int x) := atI_nat (by rw [List.getElem?_map, h]; rfl)
theorem bits_iff {x : Int} {n : Nat} : Builtin.Int.intBits x ≤ n ↔ x.natAbs < 2 ^ n := by
  unfold Builtin.Int.intBits
  by_cases h : x = 0
  · subst h
    simp [Nat.two_pow_pos]
  · have h0 : x.natAbs ≠ 0 := by omega
    rw [if_neg (by simpa using h), ← Nat.log2_lt h0]
    exact Iff.rfl
theorem bits_mul {a b : Int} {m n : Nat} (ha : Builtin.Int.intBits a ≤ m) (hb : Builtin.Int.intBits b ≤ n) : Builtin.Int.intBits (a * b) ≤ m + n := by
  rw [bits_iff] at *
  rw [Int.natAbs_mul, Nat.pow_add]
  exact Nat.mul_lt_mul'' ha hb
theorem bits_add {a b : Int} {m n : Nat} (ha : Builtin.Int.intBits a ≤ m) (hb : Builtin.Int.intBits b ≤ n) : Builtin.Int.intBits (a + b) ≤ m + n + 1 := by
  rw [bits_iff] at *
  have h1 : (2 : Nat) ^ m ≤ 2 ^ (m + n) := Nat.pow_le_pow_right (by decide) (by omega)
  have h2 : (2 : Nat) ^ n ≤ 2 ^ (m + n) := Nat.pow_le_pow_right (by decide) (by omega)
  rw [Nat.pow_succ]
  have := Int.natAbs_add_le a b
  omega
theorem bits_div {a d : Int} {m : Nat} (ha : Builtin.Int.intBits a ≤ m) : Builtin.Int.intBits (a / d) ≤ m := by
  rw [bits_iff] at *
  exact Nat.lt_of_le_of_lt (Int.natAbs_ediv_le_natAbs a d) ha
theorem bits_le {a : Int} {m n : Nat} (ha : Builtin.Int.intBits a ≤ m) (h : m ≤ n) : Builtin.Int.intBits a ≤ n := Nat.le_trans ha h
theorem mul_ok {a b : Int} (ha : Builtin.Int.intBits a ≤ 3000000) (hb : Builtin.Int.intBits b ≤ 3000000) : IntMulOk a b := by
  have e : bitsLine = 134217728 := by decide
  unfold IntMulOk
  intro z
  rw [Bool.and_eq_true] at z
  have z3 := of_decide_eq_true z.2
  rw [e] at z3
  omega
/-! #### link_word -/
def sp_link_word (K : PySem.W.Frag) : Sp := fun vs H Q _ => ∃ n : Int, vs = [.int n] ∧ Q (.int (2 * n + 1)) H
theorem ok_link_word (T : Txt K mg A) : FnOk P w K mg base CX0 1 A.f_link_word A.d_link_word ["place"] (sp_link_word K) := by
  refine T.F_link_word.ok sc_link_word (fun vs H Q E h => by obtain ⟨n, rfl, h⟩ := h; rfl) (fun cdv A' outer s H vs Q E hr h => ⟨_, (pss_one (ps_ret (pe_op op_add (pe_op op_mulB pe_int (pv 0)) pe_int))), ?_⟩)
  obtain ⟨n, rfl, h⟩ := h
  walk_at "rd"
  exact h
/-! #### is_link -/
def sp_is_link (K : PySem.W.Frag) : Sp := fun vs H Q _ => ∃ n : Int, vs = [.int n] ∧ Q (.bl (decide (n % 2 = 1))) H
theorem ok_is_link (T : Txt K mg A) : FnOk P w K mg base CX0 1 A.f_is_link A.d_is_link ["word"] (sp_is_link K) := by
  refine T.F_is_link.ok sc_is_link (fun vs H Q E h => by obtain ⟨n, rfl, h⟩ := h; rfl) (fun cdv A' outer s H vs Q E hr h => ⟨_, (pss_one (ps_ret (pe_cmpR op_eq (pe_op op_mod (pv 0) pe_int) pe_int (nomark _)))), ?_⟩)
  obtain ⟨n, rfl, h⟩ := h
  walk_at "rd"
  rw [dec_int, Bool.beq_eq_decide_eq]
  exact h
/-! #### told_by -/
def sp_told_by (K : PySem.W.Frag) : Sp := fun vs H Q _ => ∃ n : Int, vs = [.int n] ∧ Q (.int (n / 2)) H
theorem ok_told_by (T : Txt K mg A) : FnOk P w K mg base CX0 1 A.f_told_by A.d_told_by ["word"] (sp_told_by K) := by
  refine T.F_told_by.ok sc_told_by (fun vs H Q E h => by obtain ⟨n, rfl, h⟩ := h; rfl) (fun cdv A' outer s H vs Q E hr h => ⟨_, (pss_one (ps_ret (pe_op op_fdiv (pv 0) pe_int))), ?_⟩)
  obtain ⟨n, rfl, h⟩ := h
  walk_at "rd"
  exact h
theorem cut_nat (xs : List V) (i k : Nat) : cutV xs (some (i : Int)) (some (k : Int)) = (xs.drop i).take (k - i) := by
  unfold cutV
  rw [HT.sIx_nat, HT.sIx_nat]
  by_cases h : i ≤ xs.length
  · rw [Nat.min_eq_left h]
    by_cases h2 : k ≤ xs.length
    · rw [Nat.min_eq_left h2]
    · rw [Nat.min_eq_right (by omega)]
      rw [List.take_of_length_le (by rw [List.length_drop]; exact Nat.le_refl _), List.take_of_length_le (by rw [List.length_drop]; omega)]
  · rw [Nat.min_eq_right (show xs.length ≤ i by omega), List.drop_of_length_le (Nat.le_refl _), List.drop_of_length_le (show xs.length ≤ i by omega)]
    simp
/-- the script's item at a place, 0 beyond -/
def cell (ns : List Int) (i : Nat) : Int := ns.getD i 0
theorem cell_bits {ns : List Int} (h : ∀ z ∈ ns, Builtin.Int.intBits z ≤ 1048576) (i : Nat) : Builtin.Int.intBits (cell ns i) ≤ 1048576 := by
  unfold cell
  rw [List.getD_eq_getElem?_getD]
  cases e : ns[i]? with
  | none => decide
  | some x => exact h x (List.mem_of_getElem? e)
/-! #### _law_at -/
def sp_l_at (K : PySem.W.Frag) : Sp := fun vs H Q _ => ∃ (a : Addr) (ns : List Int) (i : Nat), vs = [.ref a, .int i] ∧ SqL K H a (ns.map V.int) ∧ ns.length ≤ 1000 ∧ ∀ H', Same H H' → Q (.int (cell ns i)) H'
theorem ok_l_at (T : Txt K mg A) : FnOk P w K mg base CX0 1 A.f_l_at A.d_l_at ["_law_script", "_law_place"] (sp_l_at K) := by
  refine T.F_l_at.ok sc_l_at (fun vs H Q E h => by obtain ⟨a, ns, i, rfl, hS, hl, h⟩ := h; rfl) (fun cdv A' outer s H vs Q E hr h => ⟨_, (pss_one (ps_ret (pe_ix (ix_listK (K := K) rfl) (pe_op op_cat (pe_slice (sl_listK (K := K) rfl) (pv 0) (po_some (pv 1)) (po_some (pe_op op_add (pv 1) pe_int))) (pe_lst (pa_cons pe_int pa_nil))) pe_int (fun _ _ => rfl)))), ?_⟩)
  obtain ⟨a, ns, i, rfl, hS, hl, h⟩ := h
  refine ⟨_, rfl, _, rfl, _, rfl, _, rfl, _, _, rfl, rfl, _, rfl, a, _, rfl, hS, fun p hp => ?_⟩
  refine ⟨sz2000 (by show 1 ≤ 100000; decide), fun l hl2 => ?_⟩
  have hpl : p ≠ l := fun e => by rw [← e, upd_same] at hl2; cases hl2
  refine ⟨p, l, _, _, rfl, rfl, by rw [upd_ne hpl, upd_same], upd_same, ?_, fun q hq => ?_⟩
  · refine sz2000 ?_
    show (cutV (ns.map V.int) _ _).length + 1 ≤ _
    rw [show ((i : Int) + 1) = ((i + 1 : Nat) : Int) by omega, cut_nat, List.length_take]
    omega
  · refine ⟨q, _, 0, .int (cell ns i), rfl, rfl, .of upd_same, ?_, ?_⟩
    · refine atI_nat (j := 0) ?_
      rw [show ((i : Int) + 1) = ((i + 1 : Nat) : Int) by omega, cut_nat, show i + 1 - i = 1 by omega]
      unfold cell
      rw [List.getD_eq_getElem?_getD]
      by_cases hi : i < ns.length
      · rw [List.getElem?_append_left (by rw [List.length_take, List.length_drop, List.length_map]; omega), List.getElem?_take_of_lt (by decide), List.getElem?_drop, Nat.add_zero, List.getElem?_map, List.getElem?_eq_getElem hi]
        rfl
      · have e : ns[i]? = none := List.getElem?_eq_none (by omega)
        rw [List.drop_of_length_le (by rw [List.length_map]; omega), e]
        rfl
    · exact h _ (((same_upd hp).trans (same_upd hl2)).trans (same_upd hq))
/-! #### _law_is_int -/
def sp_l_is_int (K : PySem.W.Frag) : Sp := fun vs H Q _ => ∃ n : Int, vs = [.int n] ∧ Q (.bl true) H
theorem ok_l_is_int (T : Txt K mg A) : FnOk P w K mg base CX0 1 A.f_l_is_int A.d_l_is_int ["_law_value"] (sp_l_is_int K) := by
  refine T.F_l_is_int.ok sc_l_is_int (fun vs H Q E h => by obtain ⟨n, rfl, h⟩ := h; rfl) (fun cdv A' outer s H vs Q E hr h => ⟨_, (pss_one (ps_ret (pe_and (pe_callB (call_isiK (K := K) rfl) (by rfl) T.z_isinstance (by decide +kernel) (pa_cons (pv 0) (pa_cons (pe_bltn (v := .ty "int") (by rfl) T.z_int (by decide +kernel) rfl) pa_nil))) (pe_and (pe_cmpR op_isnotB (pv 0) pe_bl (nomark _)) (pe_one (pe_cmpR op_isnotB (pv 0) pe_bl (nomark _))))))), ?_⟩)
  obtain ⟨n, rfl, h⟩ := h
  refine ⟨_, rfl, .int n, _, _, _, true, rfl, .ty "int", .base (.int n), kit_ty (by decide +kernel), true, rfl, iteT ?_⟩
  refine ⟨_, rfl, true, rfl, (fun a z => nomatch z), _, rfl, iteT ?_⟩
  exact ⟨_, rfl, false, rfl, (fun a z => nomatch z), h⟩
/-! #### _law_words_are -/
def sp_l_words_are (K : PySem.W.Frag) : Sp := fun vs H Q _ => ∃ (a b : Addr) (xs : List Int), vs = [.ref a, .ref b] ∧ SqL K H a (xs.map V.int) ∧ SqL K H b (xs.map V.int) ∧ xs.length ≤ 2000 ∧ ∀ H', Same H H' → Q (.bl true) H'
theorem ok_l_words_are (T : Txt K mg A) : FnOk P w K mg base CX0 2 A.f_l_words_are A.d_l_words_are ["_law_found", "_law_due"] (sp_l_words_are K) := by
  refine T.F_l_words_are.ok sc_l_words_are (fun vs H Q E h => by obtain ⟨a, b, xs, rfl, ha, hb, hl, h⟩ := h; rfl) (fun cdv A' outer s H vs Q E hr h => ⟨_, (pss_cons (ps_if (PW.pt (pw_or (pt_not (pt_val (pe_callB (call_isiK (K := K) rfl) (by rfl) T.z_isinstance (by decide +kernel) (pa_cons (pv 0) (pa_cons (pe_bltn (v := .ty "list") (by rfl) T.z_list (by decide +kernel) rfl) pa_nil))))) (pw_or1 (pt_cmpR op_ne (pe_callB (call_lenK (K := K) rfl) (by rfl) T.z_len (by decide +kernel) (pa_cons (pv 0) pa_nil)) (pe_callB (call_lenK (K := K) rfl) (by rfl) T.z_len (by decide +kernel) (pa_cons (pv 1) pa_nil)) (nomark _)))))
  (pss_one (ps_ret pe_bl))
  pss_nil)
  (pss_one (ps_ret (pe_cmpR op_eq (pe_callB (call_lenK (K := K) rfl) (by rfl) T.z_len (by decide +kernel) (pa_cons (pe_lc (own := [("_law_k", 2)]) (g := gName 2) rfl sc_l_words_are.nd (pi_range1 rfl T.z_range (pa_cons (pe_callB (call_lenK (K := K) rfl) (by rfl) T.z_len (by decide +kernel) (pa_cons (pv 1) pa_nil)) pa_nil)) (blkOk_by (own := [("_law_k", 2)]) (N := ["_law_found", "_law_due", "_law_k"]) (sc := defScope s_l_words_are) (by decide +kernel)) (fun _ _ _ _ _ => pg_name (i := 2) sc_l_words_are.nd rfl (.inl rfl)) (fun _ _ _ _ _ => (pts_one (PW.pt (pw_or (pt_not (pt_val (pe_call (ok_l_is_int T) (hr.mono (by decide)) (by rfl) T.m__law_is_int T.F_l_is_int.kp T.b_l_is_int .nil pass0 (pa_cons (pe_ix (ix_listK (K := K) rfl) (pv 0) (pv 2) (fun _ _ => rfl)) pa_nil)))) (pw_or1 (pt_cmpR op_ne (pe_ix (ix_listK (K := K) rfl) (pv 0) (pv 2) (fun _ _ => rfl)) (pe_ix (ix_listK (K := K) rfl) (pv 1) (pv 2) (fun _ _ => rfl)) (nomark _))))))) (fun _ _ _ _ _ => (pv 2))) pa_nil)) pe_int (nomark _))))), ?_⟩)
  obtain ⟨a, b, xs, rfl, ha, hb, hl, h⟩ := h
  refine ⟨_, rfl, .ref a, _, _, _, true, rfl, .ty "list", tyx_list ha, kit_ty (by decide +kernel), true, rfl, ?_⟩
  refine iteF ⟨_, rfl, a, _, rfl, .inl ha, _, rfl, b, _, rfl, .inl hb, rfl, false, ?_, iteF ?_⟩
  · rw [decide_eq_true rfl]
    rfl
  refine ⟨_, rfl, b, _, rfl, .inl hb, _, rfl, by omega, by rw [List.length_map]; omega, fun D hD => lc_range (lo := 0) (n := _) (fun i H' => Same H H' ∧ H' D = some (.lst [])) ⟨same_upd hD, upd_same⟩ (fun i H' hi p => ?_) (fun H' p => ?_)⟩
  · have hi' : i < xs.length := by
      rw [List.length_map] at hi
      omega
    have g : xs[i]? = some xs[i] := List.getElem?_eq_getElem hi'
    have e0 : (0 : Int) + (i : Int) = (i : Int) := Int.zero_add _
    rw [e0]
    refine ⟨rfl, ?_⟩
    refine ⟨_, rfl, _, rfl, a, _, _, _, rfl, rfl, p.1.seq ha, at_int g, _, rfl, true, rfl, iteF ?_⟩
    refine ⟨_, rfl, _, rfl, a, _, _, _, rfl, rfl, p.1.seq ha, at_int g, _, rfl, _, rfl, b, _, _, _, rfl, rfl, p.1.seq hb, at_int g, rfl, false, ?_, iteF p⟩
    rw [decide_eq_true rfl]
    rfl
  · refine ⟨D, _, rfl, .inl (.of p.2), rfl, ?_⟩
    exact h _ p.1
/-- the law's own numbers -/
def num (s : Int) : Int :=
  if s % 5 < 3 then s / 5 % 41 - 20
  else if s % 5 = 3 then ([10 ^ 60 - 1, 1 - 10 ^ 60, 10 ^ 30, 0] : List Int).getD (s / 5 % 4).toNat 0
  else s / 5 * 48271 ^ 12 % (2 * 10 ^ 60 - 1) - (10 ^ 60 - 1)
/-! #### _law_number -/
def sp_l_number (K : PySem.W.Frag) : Sp := fun vs H Q _ => ∃ s : Int, vs = [.int s] ∧ Builtin.Int.intBits s ≤ 2000000 ∧ ∀ H', Same H H' → Q (.int (num s)) H'
theorem ok_l_number (T : Txt K mg A) : FnOk P w K mg base CX0 1 A.f_l_number A.d_l_number ["_law_seed"] (sp_l_number K) := by
  refine T.F_l_number.ok sc_l_number (fun vs H Q E h => by obtain ⟨s, rfl, hb, h⟩ := h; rfl) (fun cdv A' outer s H vs Q E hr h => ⟨_, (pss_cons (ps_if (pt_cmpR op_lt (pe_op op_mod (pv 0) pe_int) pe_int (nomark _))
  (pss_one (ps_ret (pe_op op_sub (pe_op op_mod (pe_op op_fdiv (pv 0) pe_int) pe_int) pe_int)))
  pss_nil)
  (pss_cons (ps_if (pt_cmpR op_eq (pe_op op_mod (pv 0) pe_int) pe_int (nomark _))
  (pss_one (ps_ret (pe_ix (ix_listK (K := K) rfl) (pe_lst (pa_cons (pe_op op_sub (pe_op op_pow pe_int pe_int) pe_int) (pa_cons (pe_op op_sub pe_int (pe_op op_pow pe_int pe_int)) (pa_cons (pe_op op_pow pe_int pe_int) (pa_cons pe_int pa_nil))))) (pe_op op_mod (pe_op op_fdiv (pv 0) pe_int) pe_int) (fun _ _ => rfl))))
  pss_nil)
  (pss_one (ps_ret (pe_op op_sub (pe_op op_mod (pe_op op_mulB (pe_op op_fdiv (pv 0) pe_int) (pe_op op_pow pe_int pe_int)) (pe_op op_sub (pe_op op_mulB pe_int (pe_op op_pow pe_int pe_int)) pe_int)) (pe_op op_sub (pe_op op_pow pe_int pe_int) pe_int)))))), ?_⟩)
  obtain ⟨s, rfl, hb, h⟩ := h
  walk_at "rd"
  refine ite2 (fun e => ?_) (fun e => ?_)
  · have e := of_decide_eq_true e
    walk_at "rd"
    have q := h _ (Same.refl _)
    unfold num at q
    rw [if_pos e] at q
    exact q
  · have e : ¬ s % 5 < 3 := fun z => e (decide_eq_true z)
    walk_at "rd"
    refine ite2 (fun e2 => ?_) (fun e2 => ?_)
    · have e2 : s % 5 = 3 := V.int.inj (of_decide_eq_true e2)
      walk_at "rd"
      refine ⟨by show 4 ≤ sizeLine; decide, fun p hp => ?_⟩
      walk_at "rd"
      have q := h _ (same_upd (o := .lst (([10 ^ 60 - 1, 1 - 10 ^ 60, 10 ^ 30, 0] : List Int).map V.int)) hp)
      unfold num at q
      rw [if_neg e, if_pos e2] at q
      refine ⟨p, _, _, _, rfl, rfl, .of upd_same, ?_, q⟩
      obtain ⟨j, ej, hj⟩ : ∃ j : Nat, s / 5 % 4 = (j : Int) ∧ j < 4 := ⟨(s / 5 % 4).toNat, by omega, by omega⟩
      show atI (([10 ^ 60 - 1, 1 - 10 ^ 60, 10 ^ 30, 0] : List Int).map V.int) (s / 5 % 4) = _
      rw [ej]
      refine at_int ?_
      rw [Int.toNat_natCast, List.getD_eq_getElem?_getD, List.getElem?_eq_getElem (by exact hj)]
      rfl
    · have e2 : ¬ s % 5 = 3 := fun z => e2 (decide_eq_true (by show V.int (s % 5) = _; rw [z]))
      walk_at "rd"
      refine ⟨mul_ok (bits_le (bits_div hb) (by decide)) (by decide), ?_⟩
      walk_at "rd"
      have q := h _ (Same.refl _)
      unfold num at q
      rw [if_neg e, if_neg e2] at q
      exact q
theorem set_ints (xs : List Int) (j : Nat) (x : Int) : (xs.map V.int).set j (.int x) = (xs.set j x).map V.int := (List.map_set ..).symm
theorem ix_nat {xs : List Int} {c : Nat} (h : c < xs.length) : ixN (xs.map V.int).length (c : Int) = some c := by
  unfold ixN
  rw [List.length_map, if_pos (by omega), if_pos (by omega), Int.toNat_natCast]
theorem lst_set {H : Hp} {p : Addr} {xs : List Int} {j : Nat} {x : Int} : upd H p (.lst ((xs.map V.int).set j (.int x))) p = some (.lst ((xs.set j x).map V.int)) := by
  rw [upd_same, set_ints]
theorem getD_some {xs : List Int} {j : Nat} (h : j < xs.length) : xs[j]? = some (xs.getD j 0) := by
  rw [List.getD_eq_getElem?_getD, List.getElem?_eq_getElem h]
  rfl
theorem led_mem {C C' : List Int} {h : Nat} {cs ds : List Nat} {w l : Int} (k : Led C h ds w l C') (e : ∀ c, c ∈ ds ↔ c ∈ cs) : Led C h cs w l C' :=
  ⟨k.len, k.head, fun c hc => k.cell c ((e c).mpr hc), fun i h1 h2 => k.rest i h1 fun z => h2 ((e i).mp z)⟩
/-! #### led -/
def sp_led (K : PySem.W.Frag) : Sp := fun vs H Q _ => ∃ (a : Addr) (C : List Int) (h q : Nat) (cs : List Nat) (w : Int), vs = [.ref a, .int h, .int q] ∧ SqL K H a (C.map V.int) ∧ C.length ≤ 2000 ∧ Chain C h cs w ∧ (h :: cs).Nodup ∧ w % 2 = 0 ∧
      ∀ p H' C', H p = none → Same H H' → Led C h cs w (lk q) C' → H' p = some (.lst (C'.map V.int)) → Q (.ref p) H'
theorem ok_led (T : Txt K mg A) : FnOk P w K mg base CX0 2 A.f_led A.d_led ["row", "head", "place"] (sp_led K) := by
  refine T.F_led.ok sc_led (fun vs H Q E h => by obtain ⟨a, C, h, q, cs, w, rfl, hS, hl, hch, nd, hw, k⟩ := h; rfl) (fun cdv A' outer s H vs Q E hr h => ⟨_, (pss_cons (ps_set (i := 3) sc_led.nd rfl (.inl rfl) (pe_callTy (call_list_ofK (K := K) rfl) (by rfl) T.z_list (by decide +kernel) (pa_cons (pv 0) pa_nil)))
  (pss_cons (ps_while PassesOwn.never (pt_val (pe_call (ok_is_link T) (hr.mono (by decide)) (by rfl) T.m_is_link T.F_is_link.kp T.b_is_link .nil pass0 (pa_cons (pe_ix (ix_listK (K := K) rfl) (pv 3) (pv 1) (fun _ _ => rfl)) pa_nil)))
  (pss_cons (ps_set (i := 4) sc_led.nd rfl (.inl rfl) (pe_call (ok_told_by T) (hr.mono (by decide)) (by rfl) T.m_told_by T.F_told_by.kp T.b_told_by .nil pass0 (pa_cons (pe_ix (ix_listK (K := K) rfl) (pv 3) (pv 1) (fun _ _ => rfl)) pa_nil)))
  (pss_cons (ps_asg (pe_ix (ix_listK (K := K) rfl) (pv 3) (pv 4) (fun _ _ => rfl)) (pg_sub (pv 3) (pv 1) set_list))
  (pss_one (ps_asg (pe_call (ok_link_word T) (hr.mono (by decide)) (by rfl) T.m_link_word T.F_link_word.kp T.b_link_word .nil pass0 (pa_cons (pv 2) pa_nil)) (pg_sub (pv 3) (pv 4) set_list))))))
  (pss_one (ps_ret (pv 3))))), ?_⟩)
  obtain ⟨a, C, h, q, cs, w, rfl, hS, hl, hch, nd, hw, k⟩ := h
  have lh : h < C.length := hch.lt h (.inl rfl)
  walk_at "rd"
  refine ⟨a, _, rfl, .inl hS, fun p hp => ?_⟩
  refine ⟨fun m σ' H' => ∃ ds cs' C' y, m = cs'.length ∧ σ' = [some (.ref a), some (.int h), some (.int q), some (.ref p), y] ∧ Leds C h ds cs' w (lk q) C' ∧ (∀ c, (c ∈ ds ∨ c ∈ cs') ↔ c ∈ cs) ∧ Same H H' ∧ H' p = some (.lst (C'.map V.int)),
    ⟨_, [], cs, C, none, rfl, rfl, .start hch nd, fun c => ⟨fun z => z.elim (fun z => nomatch z) id, .inr⟩, same_upd hp, upd_same⟩, ?_⟩
  rintro m σ' H' ⟨ds, cs', C', y, rfl, rfl, L, hm, S, ep⟩
  have lh' : h < C'.length := by rw [L.len]; exact lh
  cases cs' with
  | nil =>
    walk_at "rd"
    refine ⟨p, _, _, _, rfl, rfl, .of ep, at_int L.ch, ?_⟩
    walk_at "rd"
    refine ifF (decide_eq_false (by omega)) ?_
    walk_at "rd"
    exact k p H' C' hp S (led_mem L.done fun c => (by have := hm c; simpa using this)) ep
  | cons c cs' =>
    have lc : c < C'.length := L.ch.lt c (.inr List.mem_cons_self)
    have ec := getD_some lc
    walk_at "rd"
    refine ⟨p, _, _, _, rfl, rfl, .of ep, at_int L.ch.1, ?_⟩
    walk_at "rd"
    refine ifT (decide_eq_true (lk_odd c)) ?_
    refine ⟨fun σ2 H2 => σ2 = [some (.ref a), some (.int h), some (.int q), some (.ref p), some (.int c)] ∧ Same H H2 ∧ H2 p = some (.lst (((C'.set h (C'.getD c 0)).set c (lk q)).map V.int)), ?_, ?_⟩
    · rintro σ2 H2 ⟨rfl, S2, ep2⟩
      refine ⟨cs'.length, by simp, c :: ds, cs', _, _, rfl, rfl, L.turn ec, fun i => ?_, S2, ep2⟩
      rw [← hm i]
      simp only [List.mem_cons]
      constructor
      · rintro ((z | z) | z)
        · exact .inr (.inl z)
        · exact .inl z
        · exact .inr (.inr z)
      · rintro (z | z | z)
        · exact .inl (.inr z)
        · exact .inl (.inl z)
        · exact .inr z
    · walk_at "rd"
      refine ⟨p, _, _, _, rfl, rfl, .of ep, at_int L.ch.1, ?_⟩
      walk_at "rd"
      rw [lk_half]
      walk_at "rd"
      refine ⟨p, _, _, _, rfl, rfl, .of ep, at_int ec, ?_⟩
      walk_at "rd"
      refine ⟨p, _, _, h, rfl, rfl, ep, ix_nat lh', ?_⟩
      walk_at "rd"
      refine ⟨p, _, _, c, rfl, rfl, lst_set, ix_nat (by rw [List.length_set]; exact lc), ?_⟩
      exact ⟨rfl, same_mut hp (same_mut hp S), lst_set⟩
/-- the law's list of words -/
def rowL (ns : List Int) (o m : Nat) (n : Nat) : List Int := (List.range n).map fun k => num (cell ns (o + k % 50) * 48271 + (m * k : Nat))
theorem rowL_len (ns : List Int) (o m n : Nat) : (rowL ns o m n).length = n := by unfold rowL; simp
theorem rowL_snoc (ns : List Int) (o m i : Nat) : rowL ns o m (i + 1) = rowL ns o m i ++ [num (cell ns (o + i % 50) * 48271 + (m * i : Nat))] := by
  unfold rowL
  rw [List.range_succ, List.map_append]
  rfl
theorem seed_bits {ns : List Int} (h : ∀ z ∈ ns, Builtin.Int.intBits z ≤ 1048576) (i : Nat) {y : Int} (hy : 0 ≤ y ∧ y < 1000000) : Builtin.Int.intBits (cell ns i * 48271 + y) ≤ 2000000 :=
  bits_le (bits_add (n := 64) (bits_mul (n := 16) (cell_bits h i) (by decide)) (intBits_le_64 (by omega) (by omega))) (by decide)
theorem off_mod {n hd : Nat} {y : Int} (h : hd < n) (y0 : 0 ≤ y) (y1 : y < (n : Int) - 1) : ∃ c : Nat, ((hd : Int) + 1 + y) % (n : Int) = (c : Int) ∧ c < n ∧ c ≠ hd := by
  by_cases l : (hd : Int) + 1 + y < n
  · exact ⟨((hd : Int) + 1 + y).toNat, by rw [Int.emod_eq_of_lt (by omega) l]; omega, by omega, by omega⟩
  · refine ⟨((hd : Int) + 1 + y - n).toNat, ?_, by omega, by omega⟩
    rw [← Int.sub_emod_right, Int.emod_eq_of_lt (by omega) (by omega)]
    omega
theorem mod_nat {n : Nat} (x : Int) (h : 0 < n) : ∃ c : Nat, x % (n : Int) = (c : Int) ∧ c < n := by
  have h1 := Int.emod_nonneg x (show (n : Int) ≠ 0 by omega)
  have h2 := Int.emod_lt_of_pos x (show (0 : Int) < (n : Int) by omega)
  exact ⟨(x % (n : Int)).toNat, by omega, by omega⟩
theorem hungR_len (C : List Int) (c h : Nat) : (hungR C c h).length = C.length := by unfold hungR; simp
def natV (c : Nat) : V := .int (c : Int)
theorem flat_nats (cs : List Nat) : (cs.map natV).all flatV = true := by
  rw [List.all_map]
  exact List.all_eq_true.mpr fun _ _ => rfl
theorem in_nats (c : Nat) (cs : List Nat) : inV (.int (c : Int)) (cs.map natV) = decide (c ∈ cs) := by
  unfold inV
  rw [List.any_map]
  by_cases h : c ∈ cs
  · rw [decide_eq_true h]
    exact List.any_eq_true.mpr ⟨c, h, by show ((c : Int) == (c : Int)) = true; simp⟩
  · rw [decide_eq_false h]
    refine List.any_eq_false.mpr fun d hd => ?_
    show ¬ ((d : Int) == (c : Int)) = true
    intro z
    have : (d : Int) = (c : Int) := by simpa using z
    have : d = c := by omega
    exact h (this ▸ hd)
/-! #### law -/
def sp_law (K : PySem.W.Frag) : Sp := fun vs H Q _ => ∃ (a : Addr) (ns : List Int), vs = [.ref a] ∧ SqL K H a (ns.map V.int) ∧ ns.length ≤ 63 ∧ (∀ z ∈ ns, Builtin.Int.intBits z ≤ 1048576) ∧ ∀ H', Q (.bl true) H'
theorem ok_law (T : Txt K mg A) : FnOk P w K mg base CX0 3 A.f_law A.d_law ["_law_script"] (sp_law K) := by
  refine T.F_law.ok sc_law (fun vs H Q E h => by obtain ⟨a, ns, rfl, hS, hl, hb, h⟩ := h; rfl) (fun cdv A' outer s H vs Q E hr h => ⟨_, (pss_cons (ps_set (i := 1) sc_law.nd rfl (.inr rfl) (pe_op op_add pe_int (pe_op op_mod (pe_call (ok_l_at T) (hr.mono (by decide)) (by rfl) T.m__law_at T.F_l_at.kp T.b_l_at .nil pass0 (pa_cons (pv 0) (pa_cons pe_int pa_nil))) pe_int)))
  (Evl.pss_cut (ps_if (pt_cmpR op_eq (pe_op op_mod (pe_op op_fdiv (pe_call (ok_l_at T) (hr.mono (by decide)) (by rfl) T.m__law_at T.F_l_at.kp T.b_l_at .nil pass0 (pa_cons (pv 0) (pa_cons pe_int pa_nil))) pe_int) pe_int) pe_int (nomark _))
  (pss_one (ps_set (i := 1) sc_law.nd rfl (.inr rfl) (pe_op op_add (pv 1) pe_int)))
  pss_nil)
  (pss_cons (ps_setLc (i := 2) (own := [("_law_k", 3)]) (g := gName 3) rfl sc_law.nd rfl rfl (sw_true rfl rfl rfl (by decide +kernel)) (pi_range1 rfl T.z_range (pa_cons (pv 1) pa_nil)) (blkOk_by (own := [("_law_k", 3)]) (N := ["_law_script", "_law_size", "_law_row", "_law_k", "_law_head", "_law_place", "_law_step", "_law_cells", "_law_due", "_law_chain", "_law_seen", "_law_at_here", "_law_handed", "_law_found"]) (sc := defScope s_law) (by decide +kernel)) (fun _ _ _ _ _ => pg_name (i := 3) sc_law.nd rfl (.inl rfl)) (fun _ _ _ _ _ => pts_nil) (fun _ _ _ _ _ => (pe_call (ok_l_number T) (hr.mono (by decide)) (by rfl) T.m__law_number T.F_l_number.kp T.b_l_number .nil pass0 (pa_cons (pe_op op_add (pe_op op_mulB (pe_call (ok_l_at T) (hr.mono (by decide)) (by rfl) T.m__law_at T.F_l_at.kp T.b_l_at .nil pass0 (pa_cons (pv 0) (pa_cons (pe_op op_add pe_int (pe_op op_mod (pv 3) pe_int)) pa_nil))) pe_int) (pe_op op_mulB pe_int (pv 3))) pa_nil))))
  (pss_cons (ps_set (i := 4) sc_law.nd rfl (.inr rfl) (pe_op op_mod (pe_call (ok_l_at T) (hr.mono (by decide)) (by rfl) T.m__law_at T.F_l_at.kp T.b_l_at .nil pass0 (pa_cons (pv 0) (pa_cons pe_int pa_nil))) (pv 1)))
  (pss_cons (ps_asg (pe_op op_mulB pe_int (pe_ix (ix_listK (K := K) rfl) (pv 2) (pv 4) (fun _ _ => rfl))) (pg_sub (pv 2) (pv 4) set_list))
  (pss_cons (ps_set (i := 5) sc_law.nd rfl (.inl rfl) (pe_op op_mod (pe_call (ok_l_at T) (hr.mono (by decide)) (by rfl) T.m__law_at T.F_l_at.kp T.b_l_at .nil pass0 (pa_cons (pv 0) (pa_cons pe_int pa_nil))) pe_int))
  (pss_cons (ps_set (i := 6) sc_law.nd rfl (.inr rfl) (pe_op op_add pe_int (pe_op op_mod (pe_call (ok_l_at T) (hr.mono (by decide)) (by rfl) T.m__law_at T.F_l_at.kp T.b_l_at .nil pass0 (pa_cons (pv 0) (pa_cons pe_int pa_nil))) pe_int)))
  (pss_cons (ps_setLc (i := 7) (own := [("_law_k", 3)]) (g := gName 3) rfl sc_law.nd rfl rfl (sw_true rfl rfl rfl (by decide +kernel)) (pi_range1 rfl T.z_range (pa_cons (pe_op op_mod (pe_call (ok_l_at T) (hr.mono (by decide)) (by rfl) T.m__law_at T.F_l_at.kp T.b_l_at .nil pass0 (pa_cons (pv 0) (pa_cons pe_int pa_nil))) pe_int) pa_nil)) (blkOk_by (own := [("_law_k", 3)]) (N := ["_law_script", "_law_size", "_law_row", "_law_k", "_law_head", "_law_place", "_law_step", "_law_cells", "_law_due", "_law_chain", "_law_seen", "_law_at_here", "_law_handed", "_law_found"]) (sc := defScope s_law) (by decide +kernel)) (fun _ _ _ _ _ => pg_name (i := 3) sc_law.nd rfl (.inl rfl)) (fun _ _ _ _ _ => pts_nil) (fun _ _ _ _ _ => (pe_op op_mod (pe_op op_add (pe_op op_add (pv 4) pe_int) (pe_op op_mod (pe_op op_add (pe_op op_mulB (pv 3) (pv 6)) (pe_call (ok_l_at T) (hr.mono (by decide)) (by rfl) T.m__law_at T.F_l_at.kp T.b_l_at .nil pass0 (pa_cons (pv 0) (pa_cons pe_int pa_nil)))) (pe_op op_sub (pv 1) pe_int))) (pv 1))))
  (Evl.pss_cut (ps_if (pt_cmpR op_eq (pe_op op_mod (pe_op op_fdiv (pe_call (ok_l_at T) (hr.mono (by decide)) (by rfl) T.m__law_at T.F_l_at.kp T.b_l_at .nil pass0 (pa_cons (pv 0) (pa_cons pe_int pa_nil))) pe_int) pe_int) pe_int (nomark _))
  (pss_one (ps_set (i := 7) sc_law.nd rfl (.inl rfl) (pe_lst pa_nil)))
  pss_nil)
  (pss_cons (ps_set (i := 8) sc_law.nd rfl (.inl rfl) (pe_callTy (call_list_ofK (K := K) rfl) (by rfl) T.z_list (by decide +kernel) (pa_cons (pv 2) pa_nil)))
  (pss_cons (ps_set (i := 9) sc_law.nd rfl (.inl rfl) (pe_callTy (call_list_ofK (K := K) rfl) (by rfl) T.z_list (by decide +kernel) (pa_cons (pv 2) pa_nil)))
  (pss_cons (ps_set (i := 10) sc_law.nd rfl (.inl rfl) (pe_lst pa_nil))
  (pss_cons (ps_for PassesOwn.never rfl (pi_listK (K := K) rfl (pv 7)) (pg_name (i := 11) sc_law.nd rfl (.inl rfl))
  (pss_one (ps_if (pt_cmpR (op_notInK (K := K) rfl) (pv 11) (pv 10) (by rfl))
  (pss_cons (ps_set (i := 10) sc_law.nd rfl (.inl rfl) (pe_op op_cat (pv 10) (pe_lst (pa_cons (pv 11) pa_nil))))
  (pss_cons (ps_asg (pe_op op_add (pe_op op_mulB pe_int (pv 5)) pe_int) (pg_sub (pv 8) (pv 11) set_list))
  (pss_cons (ps_asg (pe_ix (ix_listK (K := K) rfl) (pv 9) (pv 4) (fun _ _ => rfl)) (pg_sub (pv 9) (pv 11) set_list))
  (pss_one (ps_asg (pe_op op_add (pe_op op_mulB pe_int (pv 11)) pe_int) (pg_sub (pv 9) (pv 4) set_list))))))
  pss_nil)))
  (pss_cons (ps_set (i := 12) sc_law.nd rfl (.inl rfl) (pe_callTy (call_list_ofK (K := K) rfl) (by rfl) T.z_list (by decide +kernel) (pa_cons (pv 9) pa_nil)))
  (pss_cons (ps_set (i := 13) sc_law.nd rfl (.inl rfl) (pe_call (ok_led T) (hr.mono (by decide)) (by rfl) T.m_led T.F_led.kp T.b_led .nil pass0 (pa_cons (pv 12) (pa_cons (pv 4) (pa_cons (pv 5) pa_nil)))))
  (pss_cons (ps_if (pt_not (pt_val (pe_call (ok_l_words_are T) (hr.mono (by decide)) (by rfl) T.m__law_words_are T.F_l_words_are.kp T.b_l_words_are .nil pass0 (pa_cons (pv 13) (pa_cons (pv 8) pa_nil)))))
  (pss_one (ps_ret pe_bl))
  pss_nil)
  (pss_cons (ps_expr (pe_bm PySem.F.plainAttrs_list PySem.F.slot_list_append PySem.F.type_list_append mt_append (pv 13) (pa_cons pe_int pa_nil)))
  (pss_one (ps_ret (pe_call (ok_l_words_are T) (hr.mono (by decide)) (by rfl) T.m__law_words_are T.F_l_words_are.kp T.b_l_words_are .nil pass0 (pa_cons (pv 12) (pa_cons (pv 9) pa_nil)))))))))))))))))))))), ?_⟩)
  obtain ⟨a, ns, rfl, hS, hl, hb, h⟩ := h
  have hl' : ns.length ≤ 1000 := by omega
  -- the size
  walk_at "rd"
  refine ⟨a, ns, 0, rfl, hS, hl', fun H1 s1 => ?_⟩
  walk_at "rd"
  refine ⟨fun σ' H' => ∃ n : Nat, 2 ≤ n ∧ n ≤ 700 ∧ σ' = [some (.ref a), some (.int n), none, none, none, none, none, none, none, none, none, none, none, none] ∧ Same H H', ?_, ?_⟩
  · walk_at "rd"
    refine ⟨a, ns, 0, rfl, s1.seq hS, hl', fun H2 s2 => ?_⟩
    have S := s1.trans s2
    walk_at "rd"
    have e0 : 0 ≤ cell ns 0 % 39 ∧ cell ns 0 % 39 < 39 := by omega
    refine ite2 (fun _ => ?_) (fun _ => ?_)
    · walk_at "rd"
      exact ⟨(2 + cell ns 0 % 39 + 660).toNat, by omega, by omega, by show _ = [_, some (V.int (((2 + cell ns 0 % 39 + 660).toNat : Nat) : Int)), _, _, _, _, _, _, _, _, _, _, _, _]; rw [Int.toNat_of_nonneg (by omega)]; rfl, S⟩
    · exact ⟨(2 + cell ns 0 % 39).toNat, by omega, by omega, by show _ = [_, some (V.int (((2 + cell ns 0 % 39).toNat : Nat) : Int)), _, _, _, _, _, _, _, _, _, _, _, _]; rw [Int.toNat_of_nonneg (by omega)]; rfl, S⟩
  clear s1 H1
  rintro σ' H1 ⟨n, h2, h700, rfl, S⟩
  -- the list
  walk_at "rd"
  refine ⟨by omega, by omega, fun D hD => lc_range (lo := 0) (n := _) (fun i H' => Same H1 H' ∧ H' D = some (.lst ((rowL ns 5 13 i).map V.int))) ⟨same_upd hD, upd_same⟩ (fun i H' hi p => ?_) (fun H' p => ?_)⟩
  · rw [Int.toNat_natCast] at hi
    rw [show (0 : Int) + (i : Int) = (i : Int) from Int.zero_add _]
    refine ⟨rfl, ?_⟩
    walk_at "rd"
    refine ⟨a, ns, 5 + i % 50, by show [V.ref a, V.int (5 + (i : Int) % 50)] = _; rw [show (5 : Int) + (i : Int) % 50 = ((5 + i % 50 : Nat) : Int) by omega], p.1.seq (S.seq hS), hl', fun H2 s2 => ?_⟩
    walk_at "rd"
    rw [show (13 : Int) * (i : Int) = ((13 * i : Nat) : Int) by omega]
    refine ⟨seed_bits hb _ (by omega), fun H3 s3 => ?_⟩
    refine ⟨_, s3 D _ (s2 D _ p.2), sz2001 (by rw [List.length_map, rowL_len]; omega), same_mut hD (p.1.trans (s2.trans s3)), ?_⟩
    rw [upd_same, rowL_snoc, List.map_append]
    rfl
  obtain ⟨p1, p2⟩ := p
  rw [Int.toNat_natCast] at p2
  have hR := rowL_len ns 5 13 n
  revert p2 hR
  generalize rowL ns 5 13 n = R
  intro p2 hR
  have hD0 : H D = none := S.free hD
  replace S := S.trans p1
  clear p1 hD H1
  -- the head
  walk_at "rd"
  refine ⟨a, ns, 1, rfl, S.seq hS, hl', fun H2 s2 => ?_⟩
  replace S := S.trans s2
  replace p2 := s2 D _ p2
  clear s2 H'
  walk_at "rd"
  refine ⟨by show (0 : Int) < (n : Int); omega, ?_⟩
  obtain ⟨hd, ehd, lhd⟩ := mod_nat (cell ns 1) (show 0 < n by omega)
  try dsimp only
  rw [ehd]
  walk_at "rd"
  refine ⟨D, _, _, _, rfl, rfl, .of p2, at_int (getD_some (by omega)), ?_⟩
  walk_at "rd"
  refine ⟨D, _, _, hd, rfl, rfl, p2, ix_nat (by omega), ?_⟩
  rw [set_ints]
  have hw : (2 * R.getD hd 0) % 2 = 0 := by omega
  try dsimp only
  obtain ⟨w, ew⟩ : ∃ w, w = 2 * R.getD hd 0 := ⟨_, rfl⟩
  rw [← ew] at hw ⊢
  have hR1 : (R.set hd w).length = n := by rw [List.length_set]; exact hR
  have hw1 : (R.set hd w)[hd]? = some w := List.getElem?_set_self (by omega)
  revert hR1 hw1
  generalize R.set hd w = R1
  intro hR1 hw1
  clear ew
  have S2 := same_mut (o := .lst (R1.map V.int)) hD0 S
  have p3 : (upd H2 D (.lst (R1.map V.int))) D = some (.lst (R1.map V.int)) := upd_same
  revert S2 p3
  generalize upd H2 D (.lst (R1.map V.int)) = H3
  intro S2 p3
  clear S p2 H2
  -- place, step
  walk_at "rd"
  refine ⟨a, ns, 2, rfl, S2.seq hS, hl', fun H4 s4 => ?_⟩
  replace S2 := S2.trans s4
  replace p3 := s4 D _ p3
  clear s4 H3
  obtain ⟨pl, epl, lpl⟩ := mod_nat (n := 400) (cell ns 2) (by decide)
  walk_at "rd"
  try dsimp only
  rw [show cell ns 2 % 400 = (pl : Int) from epl]
  refine ⟨a, ns, 3, rfl, S2.seq hS, hl', fun H5 s5 => ?_⟩
  replace S2 := S2.trans s5
  replace p3 := s5 D _ p3
  clear s5 H4
  walk_at "rd"
  try dsimp only
  obtain ⟨st, est, lst1⟩ : ∃ st : Nat, 1 + cell ns 3 % 6 = (st : Int) ∧ st < 7 := ⟨(1 + cell ns 3 % 6).toNat, by omega, by omega⟩
  rw [est]
  -- the cells
  refine ⟨a, ns, 4, rfl, S2.seq hS, hl', fun H6 s6 => ?_⟩
  replace S2 := S2.trans s6
  replace p3 := s6 D _ p3
  clear s6 H5
  obtain ⟨m, em, lm⟩ := mod_nat (n := 30) (cell ns 4) (by decide)
  walk_at "rd"
  try dsimp only
  rw [show cell ns 4 % 30 = (m : Int) from em]
  refine ⟨by omega, by omega, fun E hE => lc_range (lo := 0) (n := _) (fun i H' => ∃ cs : List Nat, Same H6 H' ∧ H' E = some (.lst (cs.map natV)) ∧ cs.length = i ∧ ∀ c ∈ cs, c < n ∧ c ≠ hd) ⟨[], same_upd hE, upd_same, rfl, fun c hc => nomatch hc⟩ (fun i H' hi p => ?_) (fun H' p => ?_)⟩
  · rw [Int.toNat_natCast] at hi
    obtain ⟨cs, q1, q2, q3, q4⟩ := p
    rw [show (0 : Int) + (i : Int) = (i : Int) from Int.zero_add _]
    refine ⟨rfl, ?_⟩
    walk_at "rd"
    refine ⟨.of_left (intBits_le_64 (by omega) (by omega)), ?_⟩
    walk_at "rd"
    refine ⟨a, ns, 4, rfl, q1.seq (S2.seq hS), hl', fun H7 s7 => ?_⟩
    walk_at "rd"
    refine ⟨by show (0 : Int) < (n : Int) - 1; omega, ?_⟩
    walk_at "rd"
    refine ⟨by show (0 : Int) < (n : Int); omega, ?_⟩
    have hy := Int.emod_nonneg ((i : Int) * (st : Int) + cell ns 4) (show (n : Int) - 1 ≠ 0 by omega)
    have hy2 := Int.emod_lt_of_pos ((i : Int) * (st : Int) + cell ns 4) (show (0 : Int) < (n : Int) - 1 by omega)
    obtain ⟨c, ec, lc, nc⟩ := off_mod lhd hy hy2
    try dsimp only
    rw [ec]
    refine ⟨_, s7 E _ q2, sz2001 (by rw [List.length_map]; omega), cs ++ [c], same_mut hE (q1.trans s7), ?_, by simp [q3], fun d hd' => ?_⟩
    · rw [upd_same, List.map_append]
      rfl
    · rcases List.mem_append.mp hd' with z | z
      · exact q4 d z
      · have : d = c := by simpa using z
        subst this
        exact ⟨lc, nc⟩
  obtain ⟨cs, q1, q2, q3, q4⟩ := p
  rw [Int.toNat_natCast] at q3
  have lcs : cs.length ≤ 1000 := by omega
  replace S2 := S2.trans q1
  replace p3 := q1 D _ p3
  clear q1 H6 hE q3
  -- none in one of six
  refine ⟨fun σ' H2 => ∃ (E : Addr) (cs : List Nat), σ' = [some (.ref a), some (.int n), some (.ref D), none, some (.int hd), some (.int pl), some (.int st), some (.ref E), none, none, none, none, none, none] ∧ Same H H2 ∧ H2 D = some (.lst (R1.map V.int)) ∧ H2 E = some (.lst (cs.map natV)) ∧ cs.length ≤ 1000 ∧ ∀ c ∈ cs, c < n ∧ c ≠ hd, ?_, ?_⟩
  · walk_at "rd"
    refine ⟨a, ns, 3, rfl, S2.seq hS, hl', fun H7 s7 => ?_⟩
    walk_at "rd"
    refine ite2 (fun _ => ?_) (fun _ => ⟨E, cs, rfl, S2.trans s7, s7 D _ p3, s7 E _ q2, lcs, q4⟩)
    walk_at "rd"
    refine ⟨Nat.zero_le _, fun E2 hE2 => ⟨E2, [], rfl, (S2.trans s7).trans (same_upd hE2), same_upd hE2 D _ (s7 D _ p3), upd_same, Nat.zero_le _, fun c hc => nomatch hc⟩⟩
  clear p3 S2 q2 q4 lcs cs E H'
  rintro σ' H1 ⟨E, cs, rfl, S, pD, pE, lcs, hcs⟩
  -- what is due, the chain, the cells seen
  walk_at "rd"
  refine ⟨D, _, rfl, .inl (.of pD), fun du hdu => ?_⟩
  have nDdu : D ≠ du := ne_of_none pD hdu
  have nEdu : E ≠ du := ne_of_none pE hdu
  walk_at "rd"
  refine ⟨D, _, rfl, .inl (.of (by rw [upd_ne nDdu]; exact pD)), fun ch hch => ?_⟩
  have nch : du ≠ ch := fun e => by rw [← e, upd_same] at hch; cases hch
  have nEch : E ≠ ch := fun e => by rw [← e, upd_ne nEdu, pE] at hch; cases hch
  walk_at "rd"
  refine ⟨Nat.zero_le _, fun sn hsn => ?_⟩
  have nsd : sn ≠ du := fun e => by rw [e, upd_ne nch, upd_same] at hsn; cases hsn
  have nsc : sn ≠ ch := fun e => by rw [e, upd_same] at hsn; cases hsn
  have nsE : sn ≠ E := fun e => by rw [e, upd_ne nEch, upd_ne nEdu, pE] at hsn; cases hsn
  walk_at "rd"
  have pE3 : ∀ o, (upd (upd (upd H1 du (.lst (R1.map V.int))) ch (.lst (R1.map V.int))) sn o) E = some (.lst (cs.map natV)) := fun o => by rw [upd_ne nsE.symm, upd_ne nEch, upd_ne nEdu]; exact pE
  refine ⟨⟨_, .of (pE3 _)⟩, for_list (K := K) (a := E) (xs := cs.map natV) (fun i σ' H' => ∃ (ds : List Nat) (Du Ch : List Int) (sn : Addr) (y : Option V), σ' = [some (.ref a), some (.int n), some (.ref D), none, some (.int hd), some (.int pl), some (.int st), some (.ref E), some (.ref du), some (.ref ch), some (.ref sn), y, none, none]
      ∧ (hd :: ds).Nodup ∧ Chain Ch hd ds w ∧ Led Ch hd ds w (lk pl) Du ∧ Ch.length = n ∧ ds.length ≤ i ∧ H' du = some (.lst (Du.map V.int)) ∧ H' ch = some (.lst (Ch.map V.int)) ∧ H' sn = some (.lst (ds.reverse.map natV)) ∧ H' E = some (.lst (cs.map natV)) ∧ sn ≠ du ∧ sn ≠ ch ∧ sn ≠ E)
    ⟨[], R1, R1, sn, none, rfl, by simp, hw1, ⟨rfl, hw1, fun c hc => (nomatch hc), fun _ _ _ => rfl⟩, hR1, Nat.le_refl _, by rw [upd_ne nsd.symm, upd_ne nch, upd_same], by rw [upd_ne nsc.symm, upd_same], upd_same, pE3 _, nsd, nsc, nsE⟩ (fun i σ' H' _ ⟨_, _, _, _, _, _, _, _, _, _, _, _, _, _, e, _⟩ => .of e) ?_ ?_⟩
  · clear nsd nsc nsE pE3 hsn sn
    rintro i x σ' H' hx ⟨ds, Du, Ch, sn, y, rfl, nd, cn, ld, lCh, lds, eDu, eCh, eSn, eE, nsd, nsc, nsE⟩
    obtain ⟨c, hc, rfl⟩ : ∃ c, cs[i]? = some c ∧ x = natV c := by
      rw [List.getElem?_map] at hx
      cases e : cs[i]? with
      | none => rw [e] at hx; cases hx
      | some c => rw [e] at hx; exact ⟨c, rfl, (Option.some.inj hx).symm⟩
    obtain ⟨lc, nc⟩ := hcs c (List.mem_of_getElem? hc)
    have li : i < cs.length := (List.getElem?_eq_some_iff.mp hc).1
    walk_at "rd"
    refine ⟨sn, _, rfl, .inl (.of eSn), rfl, flat_nats _, ?_⟩
    walk_at "rd"
    by_cases hm : c ∈ ds
    · refine ifF ?_ ⟨ds, Du, Ch, sn, _, rfl, nd, cn, ld, lCh, by omega, eDu, eCh, eSn, eE, nsd, nsc, nsE⟩
      show (!inV (.int (c : Int)) (ds.reverse.map natV)) = false
      rw [in_nats, decide_eq_true (List.mem_reverse.mpr hm)]
      rfl
    · refine ifT ?_ ?_
      · show (!inV (.int (c : Int)) (ds.reverse.map natV)) = true
        rw [in_nats, decide_eq_false (fun z => hm (List.mem_reverse.mp z))]
        rfl
      -- seen = seen + [c]
      walk_at "rd"
      refine ⟨by show 1 ≤ sizeLine; decide, fun q hq => ?_⟩
      have nsq : sn ≠ q := ne_of_none eSn hq
      refine ⟨sn, q, _, _, rfl, rfl, by rw [upd_ne nsq]; exact eSn, upd_same, sz2000 (by simp; omega), fun r hr => ?_⟩
      have fr : ∀ b o, H' b = some o → b ≠ q ∧ b ≠ r := fun b o e => by
        have h1 := ne_of_none e hq
        refine ⟨h1, fun z => ?_⟩
        rw [← z, upd_ne h1, e] at hr
        cases hr
      have f1 := fr du _ eDu
      have f2 := fr ch _ eCh
      have f3 := fr E _ eE
      -- due[c] = link(place)
      walk_at "rd"
      refine ⟨du, _, _, c, rfl, rfl, by rw [upd_ne f1.2, upd_ne f1.1]; exact eDu, ix_nat (by rw [ld.len]; omega), ?_⟩
      -- chain[c] = chain[head]; chain[head] = link(c)
      walk_at "rd"
      refine ⟨ch, _, _, _, rfl, rfl, .of (by rw [upd_ne nch.symm, upd_ne f2.2, upd_ne f2.1]; exact eCh), at_int (getD_some (by omega)), ?_⟩
      walk_at "rd"
      refine ⟨ch, _, _, c, rfl, rfl, by rw [upd_ne nch.symm, upd_ne f2.2, upd_ne f2.1]; exact eCh, ix_nat (by omega), ?_⟩
      walk_at "rd"
      refine ⟨ch, _, _, hd, rfl, rfl, lst_set, ix_nat (by rw [List.length_set]; omega), ?_⟩
      have k1 := cn.hung nd (by omega) nc hm
      refine ⟨c :: ds, Du.set c (lk pl), hungR Ch c hd, r, _, rfl, k1.2, k1.1, ld.hung (by omega) (by omega) nc, by rw [hungR_len]; exact lCh, by simp; omega, ?_, lst_set, ?_, ?_, f1.2.symm, f2.2.symm, f3.2.symm⟩
      · rw [upd_ne nch, upd_ne nch]
        exact lst_set
      · rw [upd_ne f2.2.symm, upd_ne f2.2.symm, upd_ne f1.2.symm, upd_same, List.reverse_cons, List.map_append]
        rfl
      · rw [upd_ne nEch, upd_ne nEch, upd_ne nEdu, upd_ne f3.2, upd_ne f3.1]
        exact eE
  · clear nsd nsc nsE pE3 hsn sn
    rintro σ' H' ⟨ds, Du, Ch, sn, y, rfl, nd, cn, ld, lCh, lds, eDu, eCh, eSn, eE, nsd, nsc, nsE⟩
    walk_at "rd"
    refine ⟨ch, _, rfl, .inl (.of eCh), fun q hq => ?_⟩
    have nq := ne_of_none eDu hq
    have nq2 := ne_of_none eCh hq
    walk_at "rd"
    refine ⟨q, Ch, hd, pl, ds, w, rfl, .of upd_same, by omega, cn, nd, hw, fun r H2 C' hr s2 L er => ?_⟩
    have e1 : C' = Du := L.uniq ld
    subst e1
    have aq : H2 q = some (.lst (Ch.map V.int)) := s2 q _ upd_same
    have ac : H2 ch = some (.lst (Ch.map V.int)) := s2 ch _ (by rw [upd_ne nq2]; exact eCh)
    have nr1 : q ≠ r := fun e => by rw [← e, upd_same] at hr; cases hr
    have nr2 : ch ≠ r := fun e => by rw [← e, upd_ne nq2, eCh] at hr; cases hr
    have lD := ld.len
    walk_at "rd"
    refine ⟨r, du, C', rfl, .of er, .of (s2 du _ (by rw [upd_ne nq]; exact eDu)), by omega, fun H3 s3 => ?_⟩
    walk_at "rd"
    refine ⟨.inl ⟨rfl, _, .of (s3 r _ er)⟩, ?_⟩
    walk_at "rd"
    refine ⟨r, _, _, rfl, rfl, s3 r _ er, sz2001 (by rw [List.length_map]; omega), ?_⟩
    walk_at "rd"
    refine ⟨q, ch, Ch, rfl, .of (by rw [upd_ne nr1]; exact s3 q _ aq), .of (by rw [upd_ne nr2]; exact s3 ch _ ac), by omega, fun H8 s8 => ?_⟩
    exact h _
end
/-! ### the end -/
theorem all_mk {l : PySem.W.OpenLaw} {w : World} {K : PySem.W.Frag} {h : Heap} {mg : Str → Option Value} {fa : Addr} (X : K.In h) (G : h.Ns mainGlobals mg) (hfa : mg "law" = some (.ref fa))
    {f0 : Addr} {od0 an0 : Option Addr} {sl0 : Array (Option Value)} {oc0 kV0 dc0 pm0 cd0 ct0 : Value}
    (a0 : PySem.W.nsIn K mainGlobals "link_word" = some (some (.ref f0))) (l0 : K.lookup f0 = some ⟨oc0, od0, .func (PySem.W.fnOf "link_word" "link_word" (defArgs s_link_word) (defBody s_link_word) (defScope s_link_word) .none kV0 dc0 pm0 an0 cd0 ct0), sl0⟩) (c0 : PySem.W.codeIn K cd0 "link_word" = true) (k0 : PySem.W.keepIn K (.ref f0) = true)
    {f1 : Addr} {od1 an1 : Option Addr} {sl1 : Array (Option Value)} {oc1 kV1 dc1 pm1 cd1 ct1 : Value}
    (a1 : PySem.W.nsIn K mainGlobals "is_link" = some (some (.ref f1))) (l1 : K.lookup f1 = some ⟨oc1, od1, .func (PySem.W.fnOf "is_link" "is_link" (defArgs s_is_link) (defBody s_is_link) (defScope s_is_link) .none kV1 dc1 pm1 an1 cd1 ct1), sl1⟩) (c1 : PySem.W.codeIn K cd1 "is_link" = true) (k1 : PySem.W.keepIn K (.ref f1) = true)
    {f2 : Addr} {od2 an2 : Option Addr} {sl2 : Array (Option Value)} {oc2 kV2 dc2 pm2 cd2 ct2 : Value}
    (a2 : PySem.W.nsIn K mainGlobals "told_by" = some (some (.ref f2))) (l2 : K.lookup f2 = some ⟨oc2, od2, .func (PySem.W.fnOf "told_by" "told_by" (defArgs s_told_by) (defBody s_told_by) (defScope s_told_by) .none kV2 dc2 pm2 an2 cd2 ct2), sl2⟩) (c2 : PySem.W.codeIn K cd2 "told_by" = true) (k2 : PySem.W.keepIn K (.ref f2) = true)
    {f3 : Addr} {od3 an3 : Option Addr} {sl3 : Array (Option Value)} {oc3 kV3 dc3 pm3 cd3 ct3 : Value}
    (a3 : PySem.W.nsIn K mainGlobals "led" = some (some (.ref f3))) (l3 : K.lookup f3 = some ⟨oc3, od3, .func (PySem.W.fnOf "led" "led" (defArgs s_led) (defBody s_led) (defScope s_led) .none kV3 dc3 pm3 an3 cd3 ct3), sl3⟩) (c3 : PySem.W.codeIn K cd3 "led" = true) (k3 : PySem.W.keepIn K (.ref f3) = true)
    {f4 : Addr} {od4 an4 : Option Addr} {sl4 : Array (Option Value)} {oc4 kV4 dc4 pm4 cd4 ct4 : Value}
    (a4 : PySem.W.nsIn K mainGlobals "_law_at" = some (some (.ref f4))) (l4 : K.lookup f4 = some ⟨oc4, od4, .func (PySem.W.fnOf "_law_at" "_law_at" (defArgs s_l_at) (defBody s_l_at) (defScope s_l_at) .none kV4 dc4 pm4 an4 cd4 ct4), sl4⟩) (c4 : PySem.W.codeIn K cd4 "_law_at" = true) (k4 : PySem.W.keepIn K (.ref f4) = true)
    {f5 : Addr} {od5 an5 : Option Addr} {sl5 : Array (Option Value)} {oc5 kV5 dc5 pm5 cd5 ct5 : Value}
    (a5 : PySem.W.nsIn K mainGlobals "_law_is_int" = some (some (.ref f5))) (l5 : K.lookup f5 = some ⟨oc5, od5, .func (PySem.W.fnOf "_law_is_int" "_law_is_int" (defArgs s_l_is_int) (defBody s_l_is_int) (defScope s_l_is_int) .none kV5 dc5 pm5 an5 cd5 ct5), sl5⟩) (c5 : PySem.W.codeIn K cd5 "_law_is_int" = true) (k5 : PySem.W.keepIn K (.ref f5) = true)
    {f6 : Addr} {od6 an6 : Option Addr} {sl6 : Array (Option Value)} {oc6 kV6 dc6 pm6 cd6 ct6 : Value}
    (a6 : PySem.W.nsIn K mainGlobals "_law_words_are" = some (some (.ref f6))) (l6 : K.lookup f6 = some ⟨oc6, od6, .func (PySem.W.fnOf "_law_words_are" "_law_words_are" (defArgs s_l_words_are) (defBody s_l_words_are) (defScope s_l_words_are) .none kV6 dc6 pm6 an6 cd6 ct6), sl6⟩) (c6 : PySem.W.codeIn K cd6 "_law_words_are" = true) (k6 : PySem.W.keepIn K (.ref f6) = true)
    {f7 : Addr} {od7 an7 : Option Addr} {sl7 : Array (Option Value)} {oc7 kV7 dc7 pm7 cd7 ct7 : Value}
    (a7 : PySem.W.nsIn K mainGlobals "_law_number" = some (some (.ref f7))) (l7 : K.lookup f7 = some ⟨oc7, od7, .func (PySem.W.fnOf "_law_number" "_law_number" (defArgs s_l_number) (defBody s_l_number) (defScope s_l_number) .none kV7 dc7 pm7 an7 cd7 ct7), sl7⟩) (c7 : PySem.W.codeIn K cd7 "_law_number" = true) (k7 : PySem.W.keepIn K (.ref f7) = true)
    {f8 : Addr} {od8 an8 : Option Addr} {sl8 : Array (Option Value)} {oc8 kV8 dc8 pm8 cd8 ct8 : Value}
    (a8 : PySem.W.nsIn K mainGlobals "law" = some (some (.ref f8))) (l8 : K.lookup f8 = some ⟨oc8, od8, .func (PySem.W.fnOf "law" "law" (defArgs s_law) (defBody s_law) (defScope s_law) .none kV8 dc8 pm8 an8 cd8 ct8), sl8⟩) (c8 : PySem.W.codeIn K cd8 "law" = true) (k8 : PySem.W.keepIn K (.ref f8) = true)
    (z_int : PySem.W.nsIn K mainGlobals "int" = some none)
    (z_isinstance : PySem.W.nsIn K mainGlobals "isinstance" = some none)
    (z_len : PySem.W.nsIn K mainGlobals "len" = some none)
    (z_list : PySem.W.nsIn K mainGlobals "list" = some none)
    (z_range : PySem.W.nsIn K mainGlobals "range" = some none)
    : ∃ fd : FuncData, (∀ (s : Shared) (v : Value), BindsTo s fd ⟨[v], []⟩ [("_law_script", v)]) ∧ ∀ base : Heap, K.In base → base.Ns mainGlobals mg → FnOk l.prog w K mg base CX0 3 fa fd ["_law_script"] (sp_law K) := by
  have e := hfa.symm.trans (PySem.W.mg_of X G a8)
  cases e
  have F0 := fun_mk (st := s_link_word) l0 c0 k0
  have b0 := F0.binds (ps := ["place"]) fun _ _ _ _ _ _ us hl => match us, hl with | [_], _ => rfl
  have F1 := fun_mk (st := s_is_link) l1 c1 k1
  have b1 := F1.binds (ps := ["word"]) fun _ _ _ _ _ _ us hl => match us, hl with | [_], _ => rfl
  have F2 := fun_mk (st := s_told_by) l2 c2 k2
  have b2 := F2.binds (ps := ["word"]) fun _ _ _ _ _ _ us hl => match us, hl with | [_], _ => rfl
  have F3 := fun_mk (st := s_led) l3 c3 k3
  have b3 := F3.binds (ps := ["row", "head", "place"]) fun _ _ _ _ _ _ us hl => match us, hl with | [_, _, _], _ => rfl
  have F4 := fun_mk (st := s_l_at) l4 c4 k4
  have b4 := F4.binds (ps := ["_law_script", "_law_place"]) fun _ _ _ _ _ _ us hl => match us, hl with | [_, _], _ => rfl
  have F5 := fun_mk (st := s_l_is_int) l5 c5 k5
  have b5 := F5.binds (ps := ["_law_value"]) fun _ _ _ _ _ _ us hl => match us, hl with | [_], _ => rfl
  have F6 := fun_mk (st := s_l_words_are) l6 c6 k6
  have b6 := F6.binds (ps := ["_law_found", "_law_due"]) fun _ _ _ _ _ _ us hl => match us, hl with | [_, _], _ => rfl
  have F7 := fun_mk (st := s_l_number) l7 c7 k7
  have b7 := F7.binds (ps := ["_law_seed"]) fun _ _ _ _ _ _ us hl => match us, hl with | [_], _ => rfl
  have F8 := fun_mk (st := s_law) l8 c8 k8
  have b8 := F8.binds (ps := ["_law_script"]) fun _ _ _ _ _ _ us hl => match us, hl with | [_], _ => rfl
  have T : Txt K mg ⟨f0, _, f1, _, f2, _, f3, _, f4, _, f5, _, f6, _, f7, _, fa, _⟩ := ⟨F0, b0, PySem.W.mg_of X G a0, F1, b1, PySem.W.mg_of X G a1, F2, b2, PySem.W.mg_of X G a2, F3, b3, PySem.W.mg_of X G a3, F4, b4, PySem.W.mg_of X G a4, F5, b5, PySem.W.mg_of X G a5, F6, b6, PySem.W.mg_of X G a6, F7, b7, PySem.W.mg_of X G a7, F8, b8, PySem.W.mg_of X G a8, PySem.W.mg_none_of X G z_int, PySem.W.mg_none_of X G z_isinstance, PySem.W.mg_none_of X G z_len, PySem.W.mg_none_of X G z_list, PySem.W.mg_none_of X G z_range⟩
  exact ⟨_, fun s v => .of_eq rfl, fun base _ _ => ok_law T⟩
end Mine
open PySem PySem.W PyProof.Rows
set_option maxRecDepth 100000 in
set_option maxHeartbeats 0 in
theorem PySem.Challenge.cw_threadslide_k03_led_back_holds : PySem.Challenge.rw_threadslide_k03_led_back.Holds := by
  w_on; o_law; k_head; (case hw => w_witness2)
  k_fill
  refine L2.walk_ofB (l := PySem.Challenge.rw_threadslide_k03_led_back) (n := 63) (k := 3) (x := "_law_script") (CX := fun _ => L2.CX0) (sp := fun w => Mine.sp_law _) rfl (by decide) rfl ⟨rfl, by decide, by decide⟩ (fun w h Y => PySem.W.kIn_of Y) ?F (fun _ _ a ns hl hb _ hS => ⟨a, ns, rfl, hS, hl, hb, fun _ => rfl⟩) (fun _ _ _ _ _ h => h)
  case F =>
    intro w mg fa h KX G hmg
    refine' Mine.all_mk KX G hmg ?a0 ?l0 ?c0 ?k0 ?a1 ?l1 ?c1 ?k1 ?a2 ?l2 ?c2 ?k2 ?a3 ?l3 ?c3 ?k3 ?a4 ?l4 ?c4 ?k4 ?a5 ?l5 ?c5 ?k5 ?a6 ?l6 ?c6 ?k6 ?a7 ?l7 ?c7 ?k7 ?a8 ?l8 ?c8 ?k8 ?z_int ?z_isinstance ?z_len ?z_list ?z_range
    (case a0 => k_is)
    (case l0 => k_is)
    (case c0 => k_is)
    (case k0 => k_is)
    (case a1 => k_is)
    (case l1 => k_is)
    (case c1 => k_is)
    (case k1 => k_is)
    (case a2 => k_is)
    (case l2 => k_is)
    (case c2 => k_is)
    (case k2 => k_is)
    (case a3 => k_is)
    (case l3 => k_is)
    (case c3 => k_is)
    (case k3 => k_is)
    (case a4 => k_is)
    (case l4 => k_is)
    (case c4 => k_is)
    (case k4 => k_is)
    (case a5 => k_is)
    (case l5 => k_is)
    (case c5 => k_is)
    (case k5 => k_is)
    (case a6 => k_is)
    (case l6 => k_is)
    (case c6 => k_is)
    (case k6 => k_is)
    (case a7 => k_is)
    (case l7 => k_is)
    (case c7 => k_is)
    (case k7 => k_is)
    (case a8 => k_is)
    (case l8 => k_is)
    (case c8 => k_is)
    (case k8 => k_is)
    (case z_int => k_is)
    (case z_isinstance => k_is)
    (case z_len => k_is)
    (case z_list => k_is)
    (case z_range => k_is)
