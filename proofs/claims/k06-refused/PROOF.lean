import PyProof.Rows.All
import Wide.All
import OpenK.AllK
import Wide.FinOn
import HandS.ForMost
import HandS.IsInst
import HandS.EndBits
import HandS.SortInts
import HandS.Evl
import KE.GoesComp
import KE.GoesRaise
import HandS.HotCalls
import HandS.ExcIs
import HandS.Deep
import PyProof.ReprRoads
import PyProof.ReprLen
import HandS.ForExc
import HandS.TryOnly
import HandS.WordsExc
import HandS.Dict
import PySem.Challenge.RW_threadslide_k06_what_is_refused
set_option Elab.async false
set_option linter.all false
set_option maxRecDepth 100000
set_option maxHeartbeats 4000000

namespace TS
/-- the word of a link to a cell -/
def lk (p : Nat) : Int := 2 * (p : Int) + 1
theorem lk_odd (p : Nat) : lk p % 2 = 1 := by unfold lk; omega
theorem lk_half (p : Nat) : lk p / 2 = (p : Int) := by unfold lk; omega
theorem lk_inj {p q : Nat} (h : lk p = lk q) : p = q := by unfold lk at h; omega

/-- from the cell h a chain of links goes through cs, and the last cell holds w -/
def Chain (C : List Int) : Nat → List Nat → Int → Prop
  | h, [], w => C[h]? = some w
  | h, c :: cs, w => C[h]? = some (lk c) ∧ Chain C c cs w
theorem Chain.frame {C C' : List Int} : ∀ {cs : List Nat} {h : Nat} {w : Int}, Chain C h cs w → (∀ i, i = h ∨ i ∈ cs → C'[i]? = C[i]?) → Chain C' h cs w
  | [], h, w, x, k => by
    show C'[h]? = some w
    rw [k h (.inl rfl)]
    exact x
  | c :: cs, h, w, x, k => by
    refine ⟨?_, Chain.frame (cs := cs) x.2 fun i hi => k i (.inr ?_)⟩
    · rw [k h (.inl rfl)]
      exact x.1
    · rcases hi with rfl | hi
      · exact List.mem_cons_self
      · exact List.mem_cons_of_mem _ hi
/-- the first cell of a chain is another one that holds the same -/
theorem Chain.move {C C' : List Int} : ∀ {cs : List Nat} {h h' : Nat} {w : Int}, Chain C h cs w → C'[h']? = C[h]? → (∀ i, i ∈ cs → C'[i]? = C[i]?) → Chain C' h' cs w
  | [], h, h', w, x, e, _ => by
    show C'[h']? = some w
    rw [e]
    exact x
  | c :: cs, h, h', w, x, e, k => by
    refine ⟨?_, x.2.frame fun i hi => k i ?_⟩
    · rw [e]
      exact x.1
    · rcases hi with rfl | hi
      · exact List.mem_cons_self
      · exact List.mem_cons_of_mem _ hi
theorem Chain.lt {C : List Int} : ∀ {cs : List Nat} {h : Nat} {w : Int}, Chain C h cs w → ∀ i, i = h ∨ i ∈ cs → i < C.length
  | [], h, w, x, i, hi => by
    rcases hi with rfl | hi
    · exact (List.getElem?_eq_some_iff.mp x).1
    · cases hi
  | c :: cs, h, w, x, i, hi => by
    rcases hi with rfl | hi
    · exact (List.getElem?_eq_some_iff.mp x.1).1
    · exact Chain.lt (cs := cs) x.2 i (List.mem_cons.mp hi)
/-- one turn of taking a chain back -/
theorem Chain.turn {C : List Int} {h c : Nat} {cs : List Nat} {w x l : Int} (k : Chain C h (c :: cs) w) (nd : (h :: c :: cs).Nodup) (hx : C[c]? = some x) : Chain ((C.set h x).set c l) h cs w := by
  have hh := k.lt h (.inl rfl)
  have n1 := List.nodup_cons.mp nd
  have n2 := List.nodup_cons.mp n1.2
  have hc : h ≠ c := fun e => n1.1 (by rw [e]; exact List.mem_cons_self)
  refine k.2.move ?_ fun i hi => ?_
  · rw [List.getElem?_set_ne (Ne.symm hc), List.getElem?_set_self hh, hx]
  · have i1 : c ≠ i := fun e => n2.1 (by rw [e]; exact hi)
    have i2 : h ≠ i := fun e => n1.1 (by rw [e]; exact List.mem_cons_of_mem _ hi)
    rw [List.getElem?_set_ne i1, List.getElem?_set_ne i2]
/-- what taking a chain back leaves -/
structure Led (C : List Int) (h : Nat) (cs : List Nat) (w l : Int) (C' : List Int) : Prop where
  len : C'.length = C.length
  head : C'[h]? = some w
  cell : ∀ c, c ∈ cs → C'[c]? = some l
  rest : ∀ i, i ≠ h → i ∉ cs → C'[i]? = C[i]?
/-- some turns of it: the cells ds are done, cs are to come -/
structure Leds (C : List Int) (h : Nat) (ds cs : List Nat) (w l : Int) (C' : List Int) : Prop where
  len : C'.length = C.length
  ch : Chain C' h cs w
  nd : (h :: cs).Nodup
  dn : ∀ c, c ∈ ds → c ∉ cs ∧ c ≠ h
  cell : ∀ c, c ∈ ds → C'[c]? = some l
  rest : ∀ i, i ≠ h → i ∉ ds → i ∉ cs → C'[i]? = C[i]?
theorem Leds.start {C : List Int} {h : Nat} {cs : List Nat} {w l : Int} (k : Chain C h cs w) (nd : (h :: cs).Nodup) : Leds C h [] cs w l C :=
  ⟨rfl, k, nd, fun _ z => (nomatch z), fun _ z => (nomatch z), fun _ _ _ _ => rfl⟩
theorem Leds.turn {C C' : List Int} {h c : Nat} {ds cs : List Nat} {w l x : Int} (k : Leds C h ds (c :: cs) w l C') (hx : C'[c]? = some x) : Leds C h (c :: ds) cs w l ((C'.set h x).set c l) := by
  have n1 := List.nodup_cons.mp k.nd
  have n2 := List.nodup_cons.mp n1.2
  have hc : h ≠ c := fun e => n1.1 (by rw [e]; exact List.mem_cons_self)
  have lc : c < C'.length := (List.getElem?_eq_some_iff.mp hx).1
  refine ⟨by simp [k.len], k.ch.turn k.nd hx, List.nodup_cons.mpr ⟨fun z => n1.1 (List.mem_cons_of_mem _ z), n2.2⟩, fun d hd => ?_, fun d hd => ?_, fun i h1 h2 h3 => ?_⟩
  · rcases List.mem_cons.mp hd with rfl | hd
    · exact ⟨n2.1, hc.symm⟩
    · exact ⟨fun z => (k.dn d hd).1 (List.mem_cons_of_mem _ z), (k.dn d hd).2⟩
  · by_cases e : d = c
    · subst e
      rw [List.getElem?_set_self (by simpa using lc)]
    · rcases List.mem_cons.mp hd with q | hd
      · exact absurd q e
      · rw [List.getElem?_set_ne (Ne.symm e), List.getElem?_set_ne (Ne.symm (k.dn d hd).2)]
        exact k.cell d hd
  · have e : i ≠ c := fun q => h2 (by rw [q]; exact List.mem_cons_self)
    rw [List.getElem?_set_ne (Ne.symm e), List.getElem?_set_ne (Ne.symm h1)]
    refine k.rest i h1 (fun z => h2 (List.mem_cons_of_mem _ z)) fun z => ?_
    rcases List.mem_cons.mp z with q | z
    · exact e q
    · exact h3 z
theorem Leds.done {C C' : List Int} {h : Nat} {ds : List Nat} {w l : Int} (k : Leds C h ds [] w l C') : Led C h ds w l C' :=
  ⟨k.len, k.ch, k.cell, fun i h1 h2 => k.rest i h1 h2 (fun z => nomatch z)⟩

/-! ### the row while it is hung up and led -/
/-- what a cell holds by its meaning: a word, or it hangs at a head -/
inductive Ct where
  | pl (x : Int) | hg (h : Nat)
  deriving DecidableEq
/-- from the cell b on: at each head of hd hang just the cells that ex says, and its word w stands at the chain's end; the others hold their words -/
structure CInv (C : List Int) (N b : Nat) (hd : Nat → Prop) (w : Nat → Int) (ex : Nat → Ct) : Prop where
  len : C.length = N
  ch : ∀ h, b ≤ h → hd h → ∃ cs, (h :: cs).Nodup ∧ (∀ c, c ∈ cs ↔ (c < N ∧ ¬ hd c ∧ ex c = .hg h)) ∧ Chain C h cs (w h)
  pl : ∀ c x, b ≤ c → c < N → ¬ hd c → ex c = .pl x → C[c]? = some x
theorem CInv.congr {C : List Int} {N b : Nat} {hd : Nat → Prop} {w : Nat → Int} {ex ex' : Nat → Ct} (k : CInv C N b hd w ex) (e : ∀ c, c < N → ¬ hd c → ex c = ex' c) : CInv C N b hd w ex' := by
  refine ⟨k.len, fun h hb hh => ?_, fun c x hb hc hn hx => k.pl c x hb hc hn ((e c hc hn).trans hx)⟩
  obtain ⟨cs, nd, hm, ch⟩ := k.ch h hb hh
  refine ⟨cs, nd, fun c => ?_, ch⟩
  rw [hm c]
  constructor
  · rintro ⟨a, b, d⟩
    exact ⟨a, b, by rw [← e c a b]; exact d⟩
  · rintro ⟨a, b, d⟩
    exact ⟨a, b, by rw [e c a b]; exact d⟩
/-- a head is led to a place -/
theorem CInv.led {C C' : List Int} {N b h : Nat} {hd : Nat → Prop} {w : Nat → Int} {ex : Nat → Ct} {cs : List Nat} {l : Int} (k : CInv C N b hd w ex) (hh : hd h)
    (hm : ∀ c, c ∈ cs ↔ (c < N ∧ ¬ hd c ∧ ex c = .hg h)) (L : Led C h cs (w h) l C') : CInv C' N b hd w (fun c => if ex c = .hg h then .pl l else ex c) := by
  refine ⟨L.len.trans k.len, fun h' hb hh' => ?_, fun c x hb hc hn hx => ?_⟩
  · by_cases e : h' = h
    · subst e
      refine ⟨[], by simp, fun c => ?_, L.head⟩
      constructor
      · intro z; cases z
      · rintro ⟨_, _, q⟩
        split at q
        · cases q
        · rename_i z; exact absurd q z
    · obtain ⟨ds, nd, hm', ch⟩ := k.ch h' hb hh'
      refine ⟨ds, nd, fun c => ?_, ch.frame fun i hi => L.rest i ?_ ?_⟩
      · rw [hm' c]
        constructor
        · rintro ⟨a, b, d⟩
          refine ⟨a, b, ?_⟩
          rw [if_neg (by rw [d]; intro z; cases z; exact e rfl)]
          exact d
        · rintro ⟨a, b, d⟩
          refine ⟨a, b, ?_⟩
          split at d
          · cases d
          · exact d
      · rcases hi with rfl | hi
        · exact e
        · intro q
          rw [q] at hi
          exact ((hm' h).mp hi).2.1 hh
      · intro z
        have z2 := (hm i).mp z
        rcases hi with rfl | hi
        · exact z2.2.1 hh'
        · have q := ((hm' i).mp hi).2.2
          rw [z2.2.2] at q
          cases q
          exact e rfl
  · have nh : c ≠ h := fun e => hn (by rw [e]; exact hh)
    by_cases e : ex c = .hg h
    · have e' : (if ex c = .hg h then Ct.pl l else ex c) = .pl l := if_pos e
      rw [e'] at hx
      cases hx
      exact L.cell c ((hm c).mpr ⟨hc, hn, e⟩)
    · have e' : (if ex c = .hg h then Ct.pl l else ex c) = ex c := if_neg e
      rw [e'] at hx
      rw [L.rest c nh fun z => e ((hm c).mp z).2.2]
      exact k.pl c x hb hc hn hx
/-- what hanging up leaves -/
def hungR (C : List Int) (c h : Nat) : List Int := (C.set c (C.getD h 0)).set h (lk c)
theorem CInv.hung {C : List Int} {N b c h : Nat} {hd : Nat → Prop} {w : Nat → Int} {ex : Nat → Ct} (k : CInv C N b hd w ex) (hb : b ≤ h) (hh : hd h) (hc : c < N) (hn : ¬ hd c) (hx : ex c = .pl (lk h)) (hN : h < N) :
    CInv (hungR C c h) N b hd w (fun i => if i = c then .hg h else ex i) := by
  have nch : c ≠ h := fun e => hn (by rw [e]; exact hh)
  have lh : h < C.length := by rw [k.len]; exact hN
  have lc : c < C.length := by rw [k.len]; exact hc
  have gh : C[h]? = some (C.getD h 0) := by
    rw [List.getElem?_eq_getElem lh, List.getD_eq_getElem?_getD, List.getElem?_eq_getElem lh]
    rfl
  have eh : (hungR C c h)[h]? = some (lk c) := by
    unfold hungR
    rw [List.getElem?_set_self (by simpa using lh)]
  have ec : (hungR C c h)[c]? = C[h]? := by
    unfold hungR
    rw [List.getElem?_set_ne (Ne.symm nch), List.getElem?_set_self lc, gh]
  have eo : ∀ i, i ≠ c → i ≠ h → (hungR C c h)[i]? = C[i]? := fun i h1 h2 => by
    unfold hungR
    rw [List.getElem?_set_ne (Ne.symm h2), List.getElem?_set_ne (Ne.symm h1)]
  refine ⟨by unfold hungR; simp [k.len], fun h' hb' hh' => ?_, fun i x hbi hi hni hxi => ?_⟩
  · obtain ⟨cs, nd, hm, ch⟩ := k.ch h' hb' hh'
    have nc : c ∉ cs := fun z => by
      have q := ((hm c).mp z).2.2
      rw [hx] at q
      cases q
    by_cases e : h' = h
    · subst e
      have n1 := List.nodup_cons.mp nd
      refine ⟨c :: cs, ?_, fun i => ?_, eh, ch.move ec fun i hi => eo i ?_ ?_⟩
      · refine List.nodup_cons.mpr ⟨fun z => ?_, List.nodup_cons.mpr ⟨nc, n1.2⟩⟩
        rcases List.mem_cons.mp z with q | z
        · exact nch q.symm
        · exact n1.1 z
      · rw [List.mem_cons, hm i]
        by_cases q : i = c
        · subst q
          rw [if_pos rfl]
          exact ⟨fun _ => ⟨hc, hn, rfl⟩, fun _ => .inl rfl⟩
        · rw [if_neg q]
          exact ⟨fun z => z.resolve_left q, .inr⟩
      · intro q
        exact nc (q ▸ hi)
      · intro q
        exact n1.1 (q ▸ hi)
    · refine ⟨cs, nd, fun i => ?_, ch.frame fun i hi => eo i ?_ ?_⟩
      · by_cases q : i = c
        · subst q
          rw [if_pos rfl]
          constructor
          · intro z; exact absurd z nc
          · rintro ⟨_, _, z⟩
            cases z
            exact absurd rfl e
        · rw [if_neg q]
          exact hm i
      · rcases hi with rfl | hi
        · intro q; exact hn (q ▸ hh')
        · intro q; exact nc (q ▸ hi)
      · rcases hi with rfl | hi
        · exact e
        · intro q
          exact ((hm h).mp (q ▸ hi)).2.1 hh
  · have hxi' : (if i = c then Ct.hg h else ex i) = .pl x := hxi
    by_cases q : i = c
    · rw [if_pos q] at hxi'
      cases hxi'
    · rw [if_neg q] at hxi'
      rw [eo i q fun z => hni (z ▸ hh)]
      exact k.pl i x hbi hi hni hxi'
/-- cells below the bound may change -/
theorem CInv.below {C C' : List Int} {N b b' : Nat} {hd : Nat → Prop} {w : Nat → Int} {ex : Nat → Ct} (k : CInv C N b hd w ex) (hb : b ≤ b') (hl : C'.length = C.length) (hs : ∀ i, b' ≤ i → C'[i]? = C[i]?)
    (hg : ∀ c h, c < N → ¬ hd c → ex c = .hg h → b' ≤ h → b' ≤ c) : CInv C' N b' hd w ex := by
  refine ⟨hl.trans k.len, fun h h1 h2 => ?_, fun c x h1 h2 h3 h4 => ?_⟩
  · obtain ⟨cs, nd, hm, ch⟩ := k.ch h (Nat.le_trans hb h1) h2
    refine ⟨cs, nd, hm, ch.frame fun i hi => hs i ?_⟩
    rcases hi with rfl | hi
    · exact h1
    · obtain ⟨a, b, d⟩ := (hm i).mp hi
      exact hg i h a b d h1
  · rw [hs c h1]
    exact k.pl c x (Nat.le_trans hb h1) h2 h3 h4
/-- the same by one cell more -/
theorem hungR_get {C : List Int} {c h : Nat} (lh : h < C.length) (lc : c < C.length) (nch : c ≠ h) :
    (hungR C c h)[h]? = some (lk c) ∧ (hungR C c h)[c]? = C[h]? ∧ ∀ i, i ≠ c → i ≠ h → (hungR C c h)[i]? = C[i]? := by
  have gh : C[h]? = some (C.getD h 0) := by
    rw [List.getElem?_eq_getElem lh, List.getD_eq_getElem?_getD, List.getElem?_eq_getElem lh]
    rfl
  unfold hungR
  refine ⟨?_, ?_, fun i h1 h2 => ?_⟩
  · rw [List.getElem?_set_self (by simpa using lh)]
  · rw [List.getElem?_set_ne (Ne.symm nch), List.getElem?_set_self lc, gh]
  · rw [List.getElem?_set_ne (Ne.symm h2), List.getElem?_set_ne (Ne.symm h1)]
theorem Chain.hung {C : List Int} {c h : Nat} {cs : List Nat} {w : Int} (k : Chain C h cs w) (nd : (h :: cs).Nodup) (lc : c < C.length) (nch : c ≠ h) (nc : c ∉ cs) : Chain (hungR C c h) h (c :: cs) w ∧ (h :: c :: cs).Nodup := by
  obtain ⟨e1, e2, e3⟩ := hungR_get (k.lt h (.inl rfl)) lc nch
  have n1 := List.nodup_cons.mp nd
  refine ⟨⟨e1, k.move e2 fun i hi => e3 i (fun q => nc (q ▸ hi)) fun q => n1.1 (q ▸ hi)⟩, ?_⟩
  refine List.nodup_cons.mpr ⟨fun z => ?_, List.nodup_cons.mpr ⟨nc, n1.2⟩⟩
  rcases List.mem_cons.mp z with q | z
  · exact nch q.symm
  · exact n1.1 z
theorem Led.hung {C D : List Int} {c h : Nat} {cs : List Nat} {w l : Int} (k : Led C h cs w l D) (lc : c < C.length) (lh : h < C.length) (nch : c ≠ h) : Led (hungR C c h) h (c :: cs) w l (D.set c l) := by
  obtain ⟨e1, e2, e3⟩ := hungR_get lh lc nch
  have lD : c < D.length := by rw [k.len]; exact lc
  refine ⟨by unfold hungR; simp [k.len], ?_, fun i hi => ?_, fun i h1 h2 => ?_⟩
  · rw [List.getElem?_set_ne nch]
    exact k.head
  · by_cases q : i = c
    · subst q
      exact List.getElem?_set_self lD
    · rw [List.getElem?_set_ne (Ne.symm q)]
      exact k.cell i ((List.mem_cons.mp hi).resolve_left q)
  · have q : i ≠ c := fun z => h2 (by rw [z]; exact List.mem_cons_self)
    rw [List.getElem?_set_ne (Ne.symm q), e3 i q h1]
    exact k.rest i h1 fun z => h2 (List.mem_cons_of_mem _ z)
theorem Led.uniq {C D D' : List Int} {h : Nat} {cs : List Nat} {w l : Int} (k : Led C h cs w l D) (k' : Led C h cs w l D') : D = D' := by
  refine List.ext_getElem? fun i => ?_
  by_cases q : i = h
  · rw [q, k.head, k'.head]
  · by_cases z : i ∈ cs
    · rw [k.cell i z, k'.cell i z]
    · rw [k.rest i q z, k'.rest i q z]
end TS
namespace TS
/-! ### rows of boxes -/
/-- the cells of boxes, each given by the words of its fields; M says which heads are marked -/
def mflat (M : Nat → Bool) : Nat → List (List Int) → List Int
  | _, [] => []
  | a, fs :: r => (4 * (fs.length : Int) + if M a then 2 else 0) :: (fs ++ mflat M (a + 1 + fs.length) r)
def size : List (List Int) → Nat
  | [] => 0
  | fs :: r => 1 + fs.length + size r
def places : Nat → List (List Int) → List Nat
  | _, [] => []
  | a, fs :: r => a :: places (a + 1 + fs.length) r
theorem size_append : ∀ (p r : List (List Int)), size (p ++ r) = size p + size r
  | [], r => by simp [size]
  | fs :: p, r => by
    show 1 + fs.length + size (p ++ r) = 1 + fs.length + size p + size r
    rw [size_append p r]
    omega
theorem mflat_length (M : Nat → Bool) : ∀ (a : Nat) (bs : List (List Int)), (mflat M a bs).length = size bs
  | _, [] => rfl
  | a, fs :: r => by
    show (fs ++ mflat M (a + 1 + fs.length) r).length + 1 = 1 + fs.length + size r
    rw [List.length_append, mflat_length M _ r]
    omega
theorem mflat_append (M : Nat → Bool) : ∀ (a : Nat) (p r : List (List Int)), mflat M a (p ++ r) = mflat M a p ++ mflat M (a + size p) r
  | a, [], r => by simp [mflat, size]
  | a, fs :: p, r => by
    show _ :: (fs ++ mflat M (a + 1 + fs.length) (p ++ r)) = (_ :: (fs ++ mflat M (a + 1 + fs.length) p)) ++ mflat M (a + (1 + fs.length + size p)) r
    rw [mflat_append M _ p r, List.cons_append, List.append_assoc, show a + 1 + fs.length + size p = a + (1 + fs.length + size p) by omega]
theorem places_append : ∀ (a : Nat) (p r : List (List Int)), places a (p ++ r) = places a p ++ places (a + size p) r
  | a, [], r => by simp [places, size]
  | a, fs :: p, r => by
    show a :: places (a + 1 + fs.length) (p ++ r) = (a :: places (a + 1 + fs.length) p) ++ places (a + (1 + fs.length + size p)) r
    rw [places_append _ p r, List.cons_append, show a + 1 + fs.length + size p = a + (1 + fs.length + size p) by omega]
theorem places_ge : ∀ {a : Nat} {bs : List (List Int)} {h : Nat}, h ∈ places a bs → a ≤ h ∧ h < a + size bs
  | a, [], h, x => nomatch x
  | a, fs :: r, h, x => by
    rcases List.mem_cons.mp x with rfl | x
    · show _ ≤ _ ∧ _ < _ + (1 + fs.length + size r)
      omega
    · have := places_ge x
      show _ ≤ _ ∧ _ < _ + (1 + fs.length + size r)
      omega
theorem places_split {p r : List (List Int)} {fs : List Int} {h : Nat} (x : h ∈ places 0 (p ++ fs :: r)) : h < size p ∨ h = size p ∨ size p + 1 + fs.length ≤ h := by
  rw [places_append, Nat.zero_add] at x
  rcases List.mem_append.mp x with x | x
  · have := (places_ge x).2
    omega
  · rcases List.mem_cons.mp x with x | x
    · exact .inr (.inl x)
    · have := (places_ge x).1
      omega
theorem places_split' {bs p r : List (List Int)} {fs : List Int} {h : Nat} (e : bs = p ++ fs :: r) (x : h ∈ places 0 bs) : h < size p ∨ h = size p ∨ size p + 1 + fs.length ≤ h := by
  subst e
  exact places_split x
theorem places_mid {p r : List (List Int)} {fs : List Int} : size p ∈ places 0 (p ++ fs :: r) := by
  rw [places_append, Nat.zero_add]
  exact List.mem_append_right _ List.mem_cons_self
/-- where a box stands -/
theorem places_at {bs : List (List Int)} {h : Nat} (x : h ∈ places 0 bs) : ∃ p fs r, bs = p ++ fs :: r ∧ h = size p := by
  have gen : ∀ (bs : List (List Int)) (a h : Nat), h ∈ places a bs → ∃ p fs r, bs = p ++ fs :: r ∧ h = a + size p := by
    intro bs
    induction bs with
    | nil => intro a h x; cases x
    | cons fs r ih =>
      intro a h x
      rcases List.mem_cons.mp x with rfl | x
      · exact ⟨[], fs, r, rfl, rfl⟩
      · obtain ⟨p, gs, r', e, eh⟩ := ih _ h x
        refine ⟨fs :: p, gs, r', by rw [e]; rfl, ?_⟩
        rw [eh]
        show _ = a + (1 + fs.length + size p)
        omega
  obtain ⟨p, fs, r, e, eh⟩ := gen bs 0 h x
  exact ⟨p, fs, r, e, by omega⟩
/-- a row splits at a place in one way -/
theorem split_uniq : ∀ {p p' r r' : List (List Int)} {fs fs' : List Int}, p ++ fs :: r = p' ++ fs' :: r' → size p = size p' → p = p' ∧ fs = fs' ∧ r = r'
  | [], [], r, r', fs, fs', e, _ => by
    injection e with e1 e2
    exact ⟨rfl, e1, e2⟩
  | [], g :: p', r, r', fs, fs', e, h => by
    have : 0 = 1 + g.length + size p' := h
    omega
  | g :: p, [], r, r', fs, fs', e, h => by
    have : 1 + g.length + size p = 0 := h
    omega
  | g :: p, g' :: p', r, r', fs, fs', e, h => by
    have e' : g :: (p ++ fs :: r) = g' :: (p' ++ fs' :: r') := e
    injection e' with e1 e2
    subst e1
    have h' : 1 + g.length + size p = 1 + g.length + size p' := h
    obtain ⟨a, b, c⟩ := split_uniq e2 (by omega)
    exact ⟨by rw [a], b, c⟩
section
variable {M : Nat → Bool} {p r : List (List Int)} {fs sp : List Int}
theorem row_head : (mflat M 0 (p ++ fs :: r) ++ sp)[size p]? = some (4 * (fs.length : Int) + if M (size p) then 2 else 0) := by
  rw [mflat_append, Nat.zero_add, List.append_assoc, List.getElem?_append_right (by rw [mflat_length]; exact Nat.le_refl _), mflat_length, Nat.sub_self]
  rfl
theorem row_field {f : Nat} (hf : f < fs.length) : (mflat M 0 (p ++ fs :: r) ++ sp)[size p + 1 + f]? = fs[f]? := by
  rw [mflat_append, Nat.zero_add, List.append_assoc, List.getElem?_append_right (by rw [mflat_length]; omega), mflat_length, show size p + 1 + f - size p = f + 1 by omega]
  show (fs ++ mflat M (size p + 1 + fs.length) r ++ sp)[f]? = fs[f]?
  rw [List.append_assoc, List.getElem?_append_left hf]
end
/-! ### the new places -/
/-- how many cells the boxes take that stay -/
def ksize (al : Nat → Bool) : Nat → List (List Int) → Nat
  | _, [] => 0
  | a, fs :: r => (if al a then 1 + fs.length else 0) + ksize al (a + 1 + fs.length) r
def qat (al : Nat → Bool) : Nat → Nat → List (List Int) → Nat → Nat
  | _, q, [], _ => q
  | a, q, fs :: r, h => if h ≤ a then q else qat al (a + 1 + fs.length) (q + if al a then 1 + fs.length else 0) r h
/-- where the box at a place stands behind the pushing -/
def qf (al : Nat → Bool) (bs : List (List Int)) (h : Nat) : Nat := qat al 0 0 bs h
theorem ksize_append (al : Nat → Bool) : ∀ (a : Nat) (p r : List (List Int)), ksize al a (p ++ r) = ksize al a p + ksize al (a + size p) r
  | a, [], r => by simp [ksize, size]
  | a, fs :: p, r => by
    show _ + ksize al (a + 1 + fs.length) (p ++ r) = _ + ksize al (a + 1 + fs.length) p + ksize al (a + (1 + fs.length + size p)) r
    rw [ksize_append al _ p r, show a + 1 + fs.length + size p = a + (1 + fs.length + size p) by omega]
    omega
theorem ksize_le (al : Nat → Bool) : ∀ (a : Nat) (bs : List (List Int)), ksize al a bs ≤ size bs
  | _, [] => Nat.le_refl _
  | a, fs :: r => by
    show (if al a then 1 + fs.length else 0) + ksize al (a + 1 + fs.length) r ≤ 1 + fs.length + size r
    have := ksize_le al (a + 1 + fs.length) r
    split <;> omega
theorem qat_eq (al : Nat → Bool) : ∀ (p r : List (List Int)) (a q : Nat), qat al a q (p ++ r) (a + size p) = q + ksize al a p
  | [], [], a, q => rfl
  | [], fs :: r, a, q => by
    show (if a + 0 ≤ a then q else _) = q
    rw [if_pos (show a + 0 ≤ a from Nat.le_refl a)]
  | fs :: p, r, a, q => by
    show (if a + (1 + fs.length + size p) ≤ a then q else qat al (a + 1 + fs.length) (q + if al a then 1 + fs.length else 0) (p ++ r) (a + (1 + fs.length + size p))) = q + ((if al a then 1 + fs.length else 0) + ksize al (a + 1 + fs.length) p)
    rw [if_neg (by omega), show a + (1 + fs.length + size p) = a + 1 + fs.length + size p by omega, qat_eq al p r]
    omega
theorem qf_eq {al : Nat → Bool} {p r : List (List Int)} : qf al (p ++ r) (size p) = ksize al 0 p := by
  have h := qat_eq al p r 0 0
  rw [Nat.zero_add, Nat.zero_add] at h
  exact h
/-- a field's word behind the pushing -/
def relink (q : Nat → Nat) (x : Int) : Int := if x % 2 = 1 then lk (q (x / 2).toNat) else x
/-- the row pushed together -/
def outR (al : Nat → Bool) (q : Nat → Nat) : Nat → List (List Int) → List Int
  | _, [] => []
  | a, fs :: r => (if al a then (4 * (fs.length : Int)) :: fs.map (relink q) else []) ++ outR al q (a + 1 + fs.length) r
theorem outR_length (al : Nat → Bool) (q : Nat → Nat) : ∀ (a : Nat) (bs : List (List Int)), (outR al q a bs).length = ksize al a bs
  | _, [] => rfl
  | a, fs :: r => by
    show ((if al a then (4 * (fs.length : Int)) :: fs.map (relink q) else []) ++ outR al q (a + 1 + fs.length) r).length = (if al a then 1 + fs.length else 0) + ksize al (a + 1 + fs.length) r
    rw [List.length_append, outR_length al q _ r]
    split
    · simp
      omega
    · simp
theorem outR_append (al : Nat → Bool) (q : Nat → Nat) : ∀ (a : Nat) (p r : List (List Int)), outR al q a (p ++ r) = outR al q a p ++ outR al q (a + size p) r
  | a, [], r => by simp [outR, size]
  | a, fs :: p, r => by
    show _ ++ outR al q (a + 1 + fs.length) (p ++ r) = (_ ++ outR al q (a + 1 + fs.length) p) ++ outR al q (a + (1 + fs.length + size p)) r
    rw [outR_append al q _ p r, List.append_assoc, show a + 1 + fs.length + size p = a + (1 + fs.length + size p) by omega]

/-! ### the two passes -/
/-- a marked row, al its boxes that can be come to: their links lead to such boxes -/
structure Live (al : Nat → Bool) (bs : List (List Int)) : Prop where
  ok : ∀ p fs r x, bs = p ++ fs :: r → al (size p) = true → x ∈ fs → x % 2 = 1 → ∃ h, x = lk h ∧ h ∈ places 0 bs ∧ al h = true
/-- a field's cell in a box that stays -/
def FA (al : Nat → Bool) (bs : List (List Int)) (c : Nat) : Prop := ∃ p fs r, bs = p ++ fs :: r ∧ al (size p) = true ∧ size p < c ∧ c < size p + 1 + fs.length
def HD (al : Nat → Bool) (bs : List (List Int)) (h : Nat) : Prop := h ∈ places 0 bs ∧ al h = true
def wd (R : List Int) (c : Nat) : Int := R.getD c 0
def tg (R : List Int) (c : Nat) : Nat := (wd R c / 2).toNat
open Classical in
noncomputable def ex1 (al : Nat → Bool) (bs : List (List Int)) (R : List Int) (a x c : Nat) : Ct :=
  if FA al bs c ∧ wd R c % 2 = 1 ∧ c < x then (if a ≤ tg R c ∨ tg R c < c then .hg (tg R c) else .pl (lk (qf al bs (tg R c)))) else .pl (wd R c)
open Classical in
noncomputable def ex2 (al : Nat → Bool) (bs : List (List Int)) (R : List Int) (a c : Nat) : Ct :=
  if FA al bs c ∧ wd R c % 2 = 1 then (if a ≤ tg R c ∧ tg R c < c then .hg (tg R c) else .pl (lk (qf al bs (tg R c)))) else .pl (wd R c)
section
variable {al : Nat → Bool} {bs : List (List Int)} {R : List Int} {a x c : Nat}
theorem ex1_in (F : FA al bs c) (o : wd R c % 2 = 1) (l : c < x) : ex1 al bs R a x c = if a ≤ tg R c ∨ tg R c < c then .hg (tg R c) else .pl (lk (qf al bs (tg R c))) := by
  unfold ex1
  rw [if_pos ⟨F, o, l⟩]
theorem ex1_hg (F : FA al bs c) (o : wd R c % 2 = 1) (l : c < x) (h : a ≤ tg R c ∨ tg R c < c) : ex1 al bs R a x c = .hg (tg R c) := by
  rw [ex1_in F o l, if_pos h]
theorem ex1_pl (F : FA al bs c) (o : wd R c % 2 = 1) (l : c < x) (h : ¬ (a ≤ tg R c ∨ tg R c < c)) : ex1 al bs R a x c = .pl (lk (qf al bs (tg R c))) := by
  rw [ex1_in F o l, if_neg h]
theorem ex1_out (h : ¬ (FA al bs c ∧ wd R c % 2 = 1 ∧ c < x)) : ex1 al bs R a x c = .pl (wd R c) := by
  unfold ex1
  rw [if_neg h]
theorem ex2_hg (F : FA al bs c) (o : wd R c % 2 = 1) (h : a ≤ tg R c ∧ tg R c < c) : ex2 al bs R a c = .hg (tg R c) := by
  unfold ex2
  rw [if_pos ⟨F, o⟩, if_pos h]
theorem ex2_pl (F : FA al bs c) (o : wd R c % 2 = 1) (h : ¬ (a ≤ tg R c ∧ tg R c < c)) : ex2 al bs R a c = .pl (lk (qf al bs (tg R c))) := by
  unfold ex2
  rw [if_pos ⟨F, o⟩, if_neg h]
theorem ex2_out (h : ¬ (FA al bs c ∧ wd R c % 2 = 1)) : ex2 al bs R a c = .pl (wd R c) := by
  unfold ex2
  rw [if_neg h]
end
/-- the row that the passes begin with -/
def rowM (al : Nat → Bool) (bs : List (List Int)) (sp : List Int) : List Int := mflat al 0 bs ++ sp
theorem rowM_length {al : Nat → Bool} {bs : List (List Int)} {sp : List Int} : (rowM al bs sp).length = size bs + sp.length := by
  unfold rowM
  rw [List.length_append, mflat_length]
theorem wd_of {R : List Int} {c : Nat} {x : Int} (h : R[c]? = some x) : wd R c = x := by
  unfold wd
  rw [List.getD_eq_getElem?_getD, h]
  rfl
theorem some_wd {R : List Int} {c : Nat} (h : c < R.length) : R[c]? = some (wd R c) := by
  unfold wd
  rw [List.getD_eq_getElem?_getD, List.getElem?_eq_getElem h]
  rfl
section
variable {al : Nat → Bool} {bs p r : List (List Int)} {fs sp : List Int}
theorem wd_head (e : bs = p ++ fs :: r) : wd (rowM al bs sp) (size p) = 4 * (fs.length : Int) + if al (size p) then 2 else 0 := by
  subst e
  exact wd_of row_head
theorem wd_field (e : bs = p ++ fs :: r) {f : Nat} (hf : f < fs.length) : fs[f]? = some (wd (rowM al bs sp) (size p + 1 + f)) := by
  subst e
  rw [← row_field (M := al) (sp := sp) (p := p) (r := r) hf]
  exact some_wd (by
    show _ < (rowM al _ sp).length
    rw [rowM_length, size_append]
    show _ < _ + (1 + fs.length + size r) + _
    omega)
theorem size_mid (e : bs = p ++ fs :: r) : size bs = size p + 1 + fs.length + size r := by
  rw [e, size_append]
  show size p + (1 + fs.length + size r) = _
  omega
/-- no head lies among the fields of a box -/
theorem no_head (e : bs = p ++ fs :: r) {c : Nat} (h1 : size p < c) (h2 : c < size p + 1 + fs.length) : ¬ c ∈ places 0 bs := fun z => by
  rw [e] at z
  rcases places_split z with q | q | q <;> omega
/-- the target of a link in a box that stays -/
theorem FA.target (L : Live al bs) {c : Nat} (F : FA al bs c) (ho : wd (rowM al bs sp) c % 2 = 1) : wd (rowM al bs sp) c = lk (tg (rowM al bs sp) c) ∧ HD al bs (tg (rowM al bs sp) c) := by
  obtain ⟨p, fs, r, e, ha, h1, h2⟩ := F
  have hf : c - size p - 1 < fs.length := by omega
  have g := wd_field (al := al) (sp := sp) e hf
  rw [show size p + 1 + (c - size p - 1) = c by omega] at g
  obtain ⟨h, eh, hp, hl⟩ := L.ok p fs r _ e ha (List.mem_of_getElem? g) ho
  have et : tg (rowM al bs sp) c = h := by
    unfold tg
    rw [eh, lk_half]
    rfl
  rw [et]
  exact ⟨eh, hp, hl⟩
theorem FA.lt {c : Nat} (F : FA al bs c) : c < size bs := by
  obtain ⟨p, fs, r, e, ha, h1, h2⟩ := F
  rw [size_mid e]
  omega
theorem HD.lt {h : Nat} (z : HD al bs h) : h < size bs := by
  have := (places_ge z.1).2
  omega
theorem FA.not_head {c : Nat} (F : FA al bs c) : ¬ HD al bs c := fun z => by
  obtain ⟨p, fs, r, e, ha, h1, h2⟩ := F
  exact no_head e h1 h2 z.1
/-- a field of the box at hand -/
theorem FA.mid (e : bs = p ++ fs :: r) (ha : al (size p) = true) {c : Nat} (h1 : size p < c) (h2 : c < size p + 1 + fs.length) : FA al bs c := ⟨p, fs, r, e, ha, h1, h2⟩
/-- which box a cell is in -/
theorem FA.in_mid (e : bs = p ++ fs :: r) {c : Nat} (F : FA al bs c) (h1 : size p ≤ c) (h2 : c < size p + 1 + fs.length) : al (size p) = true ∧ size p < c := by
  obtain ⟨p', fs', r', e', ha, h3, h4⟩ := F
  -- both boxes hold c: they are one
  have k1 : size p' ∈ places 0 bs := by rw [e']; exact places_mid
  have k2 : size p ∈ places 0 bs := by rw [e]; exact places_mid
  rw [e] at k1
  rw [e'] at k2
  have : size p' = size p := by
    rcases places_split k1 with q | q | q
    · rcases places_split k2 with q' | q' | q' <;> omega
    · exact q
    · omega
  rw [← this]
  exact ⟨ha, h3⟩
/-! #### the first pass -/
theorem p1_start : CInv (rowM al bs sp) (size bs + sp.length) 0 (HD al bs) (wd (rowM al bs sp)) (ex1 al bs (rowM al bs sp) 0 0) := by
  have e0 : ∀ c, ex1 al bs (rowM al bs sp) 0 0 c = .pl (wd (rowM al bs sp) c) := fun c => by
    unfold ex1
    rw [if_neg fun z => absurd z.2.2 (Nat.not_lt_zero _)]
  refine ⟨rowM_length, fun h _ hh => ⟨[], by simp, fun c => ?_, ?_⟩, fun c x _ hc _ hx => ?_⟩
  · constructor
    · intro z; cases z
    · rintro ⟨_, _, q⟩
      rw [e0] at q
      cases q
  · show (rowM al bs sp)[h]? = some _
    exact some_wd (by rw [rowM_length]; have := hh.lt; omega)
  · rw [e0] at hx
    cases hx
    exact some_wd (by rw [rowM_length]; exact hc)
/-- the cell of a head tells whether its box stays -/
theorem head_stays {C : List Int} {N b : Nat} {ex : Nat → Ct} (k : CInv C N b (HD al bs) (wd (rowM al bs sp)) ex) (hN : size bs ≤ N) (e : bs = p ++ fs :: r) (hb : b ≤ size p) (hex : al (size p) = false → ex (size p) = .pl (wd (rowM al bs sp) (size p))) :
    ∃ x, C[size p]? = some x ∧ ((x % 2 = 1 ∨ x % 4 = 2) ↔ al (size p) = true) ∧ (al (size p) = false → x = 4 * (fs.length : Int)) := by
  have hp : size p ∈ places 0 bs := by rw [e]; exact places_mid
  have hl : size p < N := by have := size_mid e; omega
  cases ha : al (size p) with
  | true =>
    obtain ⟨cs, nd, hm, ch⟩ := k.ch (size p) hb ⟨hp, ha⟩
    cases cs with
    | nil =>
      have c0 : C[size p]? = some (wd (rowM al bs sp) (size p)) := ch
      rw [wd_head e, ha] at c0
      refine ⟨_, c0, ⟨fun _ => rfl, fun _ => .inr ?_⟩, fun z => nomatch z⟩
      rw [if_pos rfl]
      omega
    | cons c cs => exact ⟨_, ch.1, ⟨fun _ => rfl, fun _ => .inl (lk_odd c)⟩, fun z => nomatch z⟩
  | false =>
    have c0 := k.pl (size p) _ hb hl (fun z => by have := z.2; rw [ha] at this; cases this) (hex ha)
    have ew : wd (rowM al bs sp) (size p) = 4 * (fs.length : Int) := by rw [wd_head e, ha]; simp
    rw [ew] at c0
    refine ⟨_, c0, ⟨fun z => ?_, fun z => (nomatch z)⟩, fun _ => rfl⟩
    exfalso
    omega
theorem ex1_head (e : bs = p ++ fs :: r) {a x : Nat} {R : List Int} : ex1 al bs R a x (size p) = .pl (wd R (size p)) := by
  rw [ex1_out]
  rintro ⟨F, _⟩
  have := (F.in_mid e (Nat.le_refl _) (by omega)).2
  omega
/-- behind leading the head at hand -/
theorem p1_led {C C' : List Int} {cs : List Nat} (L : Live al bs) (e : bs = p ++ fs :: r) (ha : al (size p) = true)
    (k : CInv C (size bs + sp.length) 0 (HD al bs) (wd (rowM al bs sp)) (ex1 al bs (rowM al bs sp) (size p) (size p)))
    (hm : ∀ c, c ∈ cs ↔ (c < size bs + sp.length ∧ ¬ HD al bs c ∧ ex1 al bs (rowM al bs sp) (size p) (size p) c = .hg (size p)))
    (h : Led C (size p) cs (wd (rowM al bs sp) (size p)) (lk (ksize al 0 p)) C') :
    CInv C' (size bs + sp.length) 0 (HD al bs) (wd (rowM al bs sp)) (ex1 al bs (rowM al bs sp) (size p + 1 + fs.length) (size p + 1)) := by
  have hd : HD al bs (size p) := ⟨by rw [e]; exact places_mid, ha⟩
  refine (k.led hd hm h).congr fun c hc hn => ?_
  have q : qf al bs (size p) = ksize al 0 p := by rw [e]; exact qf_eq
  by_cases F : FA al bs c ∧ wd (rowM al bs sp) c % 2 = 1
  · obtain ⟨F, ho⟩ := F
    obtain ⟨_, ht⟩ := F.target (sp := sp) L ho
    have hs := places_split' e ht.1
    have nc : c ≠ size p := fun z => hn (by rw [z]; exact hd)
    by_cases c1 : c < size p
    · by_cases c2 : tg (rowM al bs sp) c = size p
      · rw [ex1_hg F ho c1 (.inl (by omega)), ex1_pl F ho (by omega) (by omega), if_pos (by rw [c2]), c2, q]
      · by_cases c3 : size p ≤ tg (rowM al bs sp) c ∨ tg (rowM al bs sp) c < c
        · rw [ex1_hg F ho c1 c3, ex1_hg F ho (by omega) (by omega), if_neg (fun z => c2 (Ct.hg.inj z))]
        · rw [ex1_pl F ho c1 c3, ex1_pl F ho (by omega) (by omega), if_neg (fun z => Ct.noConfusion z)]
    · rw [ex1_out (fun z => c1 z.2.2), ex1_out (by rintro ⟨_, _, z⟩; omega), if_neg (fun z => Ct.noConfusion z)]
  · rw [ex1_out (fun z => F ⟨z.1, z.2.1⟩), ex1_out (fun z => F ⟨z.1, z.2.1⟩), if_neg (fun z => Ct.noConfusion z)]
/-- the word of a field that is not yet hung up -/
theorem p1_cell {C : List Int} {x a : Nat} (e : bs = p ++ fs :: r) (k : CInv C (size bs + sp.length) 0 (HD al bs) (wd (rowM al bs sp)) (ex1 al bs (rowM al bs sp) a x)) (h1 : size p < x) (h2 : x < size p + 1 + fs.length) : C[x]? = some (wd (rowM al bs sp) x) := by
  refine k.pl x _ (Nat.zero_le _) (by have := size_mid e; omega) (fun z => no_head e h1 h2 z.1) ?_
  rw [ex1_out fun z => absurd z.2.2 (Nat.lt_irrefl _)]
/-- a field that is no link is passed -/
theorem p1_skip {C : List Int} {x a : Nat} (k : CInv C (size bs + sp.length) 0 (HD al bs) (wd (rowM al bs sp)) (ex1 al bs (rowM al bs sp) a x)) (h : ¬ wd (rowM al bs sp) x % 2 = 1) :
    CInv C (size bs + sp.length) 0 (HD al bs) (wd (rowM al bs sp)) (ex1 al bs (rowM al bs sp) a (x + 1)) := k.congr fun c hc hn => by
  by_cases F : FA al bs c ∧ wd (rowM al bs sp) c % 2 = 1 ∧ c < x
  · rw [ex1_in F.1 F.2.1 F.2.2, ex1_in F.1 F.2.1 (by omega)]
  · rw [ex1_out F, ex1_out]
    rintro ⟨f, o, l⟩
    by_cases z : c = x
    · rw [z] at o; exact h o
    · exact F ⟨f, o, by omega⟩
/-- a field that is a link is hung up -/
theorem p1_hung {C : List Int} {x : Nat} (L : Live al bs) (e : bs = p ++ fs :: r) (ha : al (size p) = true) (k : CInv C (size bs + sp.length) 0 (HD al bs) (wd (rowM al bs sp)) (ex1 al bs (rowM al bs sp) (size p + 1 + fs.length) x))
    (h1 : size p < x) (h2 : x < size p + 1 + fs.length) (h : wd (rowM al bs sp) x % 2 = 1) :
    wd (rowM al bs sp) x = lk (tg (rowM al bs sp) x) ∧ tg (rowM al bs sp) x < size bs + sp.length ∧
    CInv (hungR C x (tg (rowM al bs sp) x)) (size bs + sp.length) 0 (HD al bs) (wd (rowM al bs sp)) (ex1 al bs (rowM al bs sp) (size p + 1 + fs.length) (x + 1)) := by
  have F : FA al bs x := .mid e ha h1 h2
  obtain ⟨ew, ht⟩ := F.target (sp := sp) L h
  have hl := ht.lt
  have hs := places_split' e ht.1
  refine ⟨ew, by omega, (k.hung (Nat.zero_le _) ht (by have := F.lt; omega) F.not_head ?_ (by omega)).congr fun c hc hn => ?_⟩
  · rw [ex1_out (fun z => absurd z.2.2 (Nat.lt_irrefl _)), ← ew]
  · by_cases z : c = x
    · subst z
      rw [if_pos rfl, ex1_hg F h (by omega) (by omega)]
    · rw [if_neg z]
      by_cases G : FA al bs c ∧ wd (rowM al bs sp) c % 2 = 1 ∧ c < x
      · rw [ex1_in G.1 G.2.1 G.2.2, ex1_in G.1 G.2.1 (by omega)]
      · rw [ex1_out G, ex1_out]
        rintro ⟨f, o, l⟩
        exact G ⟨f, o, by omega⟩
/-- a box that goes is passed -/
theorem p1_dead {C : List Int} (L : Live al bs) (e : bs = p ++ fs :: r) (ha : al (size p) = false) (k : CInv C (size bs + sp.length) 0 (HD al bs) (wd (rowM al bs sp)) (ex1 al bs (rowM al bs sp) (size p) (size p))) :
    CInv C (size bs + sp.length) 0 (HD al bs) (wd (rowM al bs sp)) (ex1 al bs (rowM al bs sp) (size p + 1 + fs.length) (size p + 1 + fs.length)) := k.congr fun c hc hn => by
  by_cases F : FA al bs c ∧ wd (rowM al bs sp) c % 2 = 1
  · obtain ⟨F, ho⟩ := F
    obtain ⟨_, ht⟩ := F.target (sp := sp) L ho
    have nt : tg (rowM al bs sp) c ≠ size p := fun z => by
      have := ht.2
      rw [z, ha] at this
      cases this
    have hs := places_split' e ht.1
    by_cases c1 : c < size p
    · by_cases c2 : size p ≤ tg (rowM al bs sp) c ∨ tg (rowM al bs sp) c < c
      · rw [ex1_hg F ho c1 c2, ex1_hg F ho (by omega) (by omega)]
      · rw [ex1_pl F ho c1 c2, ex1_pl F ho (by omega) (by omega)]
    · have c2 : ¬ c < size p + 1 + fs.length := fun z => by
        have := (F.in_mid e (by omega) z).1
        rw [ha] at this
        cases this
      rw [ex1_out (fun z => c1 z.2.2), ex1_out (fun z => c2 z.2.2)]
  · rw [ex1_out (fun z => F ⟨z.1, z.2.1⟩), ex1_out (fun z => F ⟨z.1, z.2.1⟩)]
/-- the first pass is through, the second begins -/
theorem p1_end {C : List Int} (L : Live al bs) (k : CInv C (size bs + sp.length) 0 (HD al bs) (wd (rowM al bs sp)) (ex1 al bs (rowM al bs sp) (size bs) (size bs))) :
    CInv C (size bs + sp.length) 0 (HD al bs) (wd (rowM al bs sp)) (ex2 al bs (rowM al bs sp) 0) := k.congr fun c hc hn => by
  by_cases F : FA al bs c ∧ wd (rowM al bs sp) c % 2 = 1
  · obtain ⟨F, ho⟩ := F
    obtain ⟨_, ht⟩ := F.target (sp := sp) L ho
    have h1 := ht.lt
    by_cases c2 : tg (rowM al bs sp) c < c
    · rw [ex1_hg F ho F.lt (.inr c2), ex2_hg F ho ⟨Nat.zero_le _, c2⟩]
    · rw [ex1_pl F ho F.lt (by omega), ex2_pl F ho (by omega)]
  · rw [ex1_out (fun z => F ⟨z.1, z.2.1⟩), ex2_out F]
/-! #### the second pass -/
theorem ex2_head (e : bs = p ++ fs :: r) {a : Nat} {R : List Int} : ex2 al bs R a (size p) = .pl (wd R (size p)) := by
  rw [ex2_out]
  rintro ⟨F, _⟩
  have := (F.in_mid e (Nat.le_refl _) (by omega)).2
  omega
theorem p2_led {C C' : List Int} {cs : List Nat} (L : Live al bs) (e : bs = p ++ fs :: r) (ha : al (size p) = true)
    (k : CInv C (size bs + sp.length) (size p) (HD al bs) (wd (rowM al bs sp)) (ex2 al bs (rowM al bs sp) (size p)))
    (hm : ∀ c, c ∈ cs ↔ (c < size bs + sp.length ∧ ¬ HD al bs c ∧ ex2 al bs (rowM al bs sp) (size p) c = .hg (size p)))
    (h : Led C (size p) cs (wd (rowM al bs sp) (size p)) (lk (ksize al 0 p)) C') :
    CInv C' (size bs + sp.length) (size p) (HD al bs) (wd (rowM al bs sp)) (ex2 al bs (rowM al bs sp) (size p + 1 + fs.length)) := by
  have hd : HD al bs (size p) := ⟨by rw [e]; exact places_mid, ha⟩
  refine (k.led hd hm h).congr fun c hc hn => ?_
  have q : qf al bs (size p) = ksize al 0 p := by rw [e]; exact qf_eq
  by_cases F : FA al bs c ∧ wd (rowM al bs sp) c % 2 = 1
  · obtain ⟨_, ht⟩ := F.1.target (sp := sp) L F.2
    have hs := places_split' e ht.1
    by_cases c3 : size p ≤ tg (rowM al bs sp) c ∧ tg (rowM al bs sp) c < c
    · by_cases c2 : tg (rowM al bs sp) c = size p
      · rw [ex2_hg F.1 F.2 c3, ex2_pl F.1 F.2 (by omega), if_pos (by rw [c2]), c2, q]
      · rw [ex2_hg F.1 F.2 c3, ex2_hg F.1 F.2 (by omega), if_neg (fun z => c2 (Ct.hg.inj z))]
    · rw [ex2_pl F.1 F.2 c3, ex2_pl F.1 F.2 (by omega), if_neg (fun z => Ct.noConfusion z)]
  · rw [ex2_out F, ex2_out F, if_neg (fun z => Ct.noConfusion z)]
/-- a field of the box at hand, once its head has been led -/
theorem p2_cell {C : List Int} (L : Live al bs) (e : bs = p ++ fs :: r) (ha : al (size p) = true) (k : CInv C (size bs + sp.length) (size p) (HD al bs) (wd (rowM al bs sp)) (ex2 al bs (rowM al bs sp) (size p + 1 + fs.length)))
    {f : Nat} (hf : f < fs.length) : C[size p + 1 + f]? = (fs[f]?).map (relink (qf al bs)) := by
  have F : FA al bs (size p + 1 + f) := .mid e ha (by omega) (by omega)
  rw [wd_field (al := al) (sp := sp) e hf]
  refine k.pl _ _ (by omega) (by have := F.lt; omega) F.not_head ?_
  unfold relink
  by_cases ho : wd (rowM al bs sp) (size p + 1 + f) % 2 = 1
  · obtain ⟨ew, ht⟩ := F.target (sp := sp) L ho
    have hs := places_split' e ht.1
    rw [ex2_pl F ho (by omega), if_pos ho]
    rfl
  · rw [ex2_out (fun z => ho z.2), if_neg ho]
theorem p2_below {C C' : List Int} {b b' : Nat} (k : CInv C (size bs + sp.length) b (HD al bs) (wd (rowM al bs sp)) (ex2 al bs (rowM al bs sp) b')) (hb : b ≤ b') (hl : C'.length = C.length) (hs : ∀ i, b' ≤ i → C'[i]? = C[i]?) :
    CInv C' (size bs + sp.length) b' (HD al bs) (wd (rowM al bs sp)) (ex2 al bs (rowM al bs sp) b') := k.below hb hl hs fun c h hc hn hx hh => by
  unfold ex2 at hx
  split at hx
  · split at hx
    · rename_i z
      cases hx
      omega
    · cases hx
  · cases hx
theorem p2_dead {C : List Int} (L : Live al bs) (e : bs = p ++ fs :: r) (ha : al (size p) = false) (k : CInv C (size bs + sp.length) (size p) (HD al bs) (wd (rowM al bs sp)) (ex2 al bs (rowM al bs sp) (size p))) :
    CInv C (size bs + sp.length) (size p + 1 + fs.length) (HD al bs) (wd (rowM al bs sp)) (ex2 al bs (rowM al bs sp) (size p + 1 + fs.length)) := by
  refine p2_below (k.congr fun c hc hn => ?_) (by omega) rfl fun _ _ => rfl
  by_cases F : FA al bs c ∧ wd (rowM al bs sp) c % 2 = 1
  · obtain ⟨_, ht⟩ := F.1.target (sp := sp) L F.2
    have nt : tg (rowM al bs sp) c ≠ size p := fun z => by
      have := ht.2
      rw [z, ha] at this
      cases this
    have hs := places_split' e ht.1
    by_cases c2 : size p ≤ tg (rowM al bs sp) c ∧ tg (rowM al bs sp) c < c
    · rw [ex2_hg F.1 F.2 c2, ex2_hg F.1 F.2 (by omega)]
    · rw [ex2_pl F.1 F.2 c2, ex2_pl F.1 F.2 (by omega)]
  · rw [ex2_out F, ex2_out F]
/-- the cells of a chain lie behind the head, at the second pass -/
theorem p2_chain {b c h : Nat} (hx : ex2 al bs (rowM al bs sp) b c = .hg h) : b ≤ h ∧ h < c := by
  unfold ex2 at hx
  split at hx
  · split at hx
    · rename_i z
      cases hx
      exact z
    · cases hx
  · cases hx
end
end TS
namespace TS
/-! ### marking -/
/-- every link of a box leads to a box -/
def Valid (bs : List (List Int)) : Prop := ∀ fs ∈ bs, ∀ x ∈ fs, x % 2 = 1 → ∃ h, x = lk h ∧ h ∈ places 0 bs
/-- the boxes that can be come to, by their places -/
inductive Reach (bs : List (List Int)) : Nat → Prop
  | door : Reach bs 0
  | step {p r : List (List Int)} {fs : List Int} {h : Nat} (e : bs = p ++ fs :: r) (a : Reach bs (size p)) (m : lk h ∈ fs) (k : h ∈ places 0 bs) : Reach bs h
open Classical in
noncomputable def alive (bs : List (List Int)) (h : Nat) : Bool := decide (Reach bs h)
theorem alive_iff {bs : List (List Int)} {h : Nat} : alive bs h = true ↔ Reach bs h := by unfold alive; simp
theorem Live.of {bs : List (List Int)} (v : Valid bs) : Live (alive bs) bs := ⟨fun p fs r x e ha hx ho => by
  obtain ⟨h, eh, hp⟩ := v fs (by rw [e]; simp) x hx ho
  exact ⟨h, eh, hp, alive_iff.mpr (.step e (alive_iff.mp ha) (eh ▸ hx) hp)⟩⟩
def mkd (M : Nat → Bool) (h : Nat) : Nat → Bool := fun x => x == h || M x
theorem mkd_self {M : Nat → Bool} {h : Nat} : mkd M h h = true := by simp [mkd]
theorem mkd_of {M : Nat → Bool} {h x : Nat} (e : M x = true) : mkd M h x = true := by simp [mkd, e]
theorem mkd_or {M : Nat → Bool} {h x : Nat} (e : mkd M h x = true) : x = h ∨ M x = true := by simpa [mkd] using e
theorem mflat_congr {M M' : Nat → Bool} : ∀ {a : Nat} {bs : List (List Int)}, (∀ h, a ≤ h → M h = M' h) → mflat M a bs = mflat M' a bs
  | _, [], _ => rfl
  | a, fs :: r, e => by
    show _ :: (fs ++ mflat M (a + 1 + fs.length) r) = _ :: (fs ++ mflat M' (a + 1 + fs.length) r)
    rw [e a (Nat.le_refl a), mflat_congr fun h hh => e h (by omega)]
theorem mflat_below {M M' : Nat → Bool} {bs : List (List Int)} : ∀ {a : Nat}, (∀ h, h ∈ places a bs → M h = M' h) → mflat M a bs = mflat M' a bs := by
  induction bs with
  | nil => intro a _; rfl
  | cons fs r ih =>
    intro a e
    show _ :: (fs ++ mflat M (a + 1 + fs.length) r) = _ :: (fs ++ mflat M' (a + 1 + fs.length) r)
    rw [e a List.mem_cons_self, ih fun h hh => e h (List.mem_cons_of_mem _ hh)]
/-- a head is marked -/
theorem row_mark {M : Nat → Bool} {p r : List (List Int)} {fs sp : List Int} : (mflat M 0 (p ++ fs :: r) ++ sp).set (size p) (4 * (fs.length : Int) + 2) = mflat (mkd M (size p)) 0 (p ++ fs :: r) ++ sp := by
  rw [mflat_append, mflat_append, Nat.zero_add]
  have e1 : mflat (mkd M (size p)) 0 p = mflat M 0 p := mflat_below fun h hh => by
    have := (places_ge hh).2
    have nh : (h == size p) = false := by simp; omega
    unfold mkd
    rw [nh]
    rfl
  have e2 : mflat (mkd M (size p)) (size p) (fs :: r) = (4 * (fs.length : Int) + 2) :: (fs ++ mflat M (size p + 1 + fs.length) r) := by
    show (4 * (fs.length : Int) + if mkd M (size p) (size p) then 2 else 0) :: (fs ++ mflat (mkd M (size p)) (size p + 1 + fs.length) r) = _
    rw [mkd_self, if_pos rfl]
    congr 2
    refine mflat_below fun h hh => ?_
    have := (places_ge hh).1
    have nh : (h == size p) = false := by simp; omega
    unfold mkd
    rw [nh]
    rfl
  rw [e1, e2]
  show (mflat M 0 p ++ ((4 * (fs.length : Int) + if M (size p) then 2 else 0) :: (fs ++ mflat M (size p + 1 + fs.length) r)) ++ sp).set (size p) _ = _
  rw [List.append_assoc, List.append_assoc, List.set_append_right _ _ (by rw [mflat_length]; exact Nat.le_refl _), mflat_length, Nat.sub_self]
  rfl
/-- how many heads are not marked -/
def unm (M : Nat → Bool) : List Nat → Nat
  | [] => 0
  | h :: r => (if M h then 0 else 1) + unm M r
theorem unm_le {M : Nat → Bool} {h : Nat} : ∀ l : List Nat, unm (mkd M h) l ≤ unm M l
  | [] => Nat.le_refl _
  | x :: r => by
    have ih := unm_le (M := M) (h := h) r
    show (if mkd M h x then 0 else 1) + unm (mkd M h) r ≤ (if M x then 0 else 1) + unm M r
    by_cases e : M x = true
    · rw [mkd_of e, e]
      simpa using ih
    · rw [if_neg e]
      split <;> omega
theorem unm_lt {M : Nat → Bool} {h : Nat} (e : M h = false) : ∀ {l : List Nat}, h ∈ l → unm (mkd M h) l + 1 ≤ unm M l
  | [], m => nomatch m
  | x :: r, m => by
    show (if mkd M h x then 0 else 1) + unm (mkd M h) r + 1 ≤ (if M x then 0 else 1) + unm M r
    by_cases hx : x = h
    · subst hx
      rw [mkd_self, e]
      have := unm_le (M := M) (h := x) r
      simp
      omega
    · have ih := unm_lt e ((List.mem_cons.mp m).resolve_left (Ne.symm hx))
      have e2 : mkd M h x = M x := by
        unfold mkd
        have : (x == h) = false := by simpa using hx
        rw [this]
        rfl
      rw [e2]
      omega
/-- the state of marking: M the marks, W the heads that wait, X a head that is being looked at -/
structure Mk (bs : List (List Int)) (M : Nat → Bool) (W : List Nat) (X : Nat → Prop) : Prop where
  door : M 0 = true
  re : ∀ h, M h = true → h ∈ places 0 bs ∧ Reach bs h
  wait : ∀ h ∈ W, M h = true
  cl : ∀ p fs r h, bs = p ++ fs :: r → M (size p) = true → size p ∉ W → ¬ X (size p) → lk h ∈ fs → M h = true
/-- the links of the first f fields of the box at hand are marked -/
def Fd (fs : List Int) (M : Nat → Bool) (f : Nat) : Prop := ∀ i h, i < f → fs[i]? = some (lk h) → M h = true
theorem Mk.start {bs : List (List Int)} (h0 : 0 ∈ places 0 bs) : Mk bs (mkd (fun _ => false) 0) [0] (fun _ => False) :=
  ⟨mkd_self, fun h e => by
    have : h = 0 := by simpa [mkd] using e
    subst this
    exact ⟨h0, .door⟩, fun h hh => by
    have : h = 0 := by simpa using hh
    subst this
    exact mkd_self, fun p fs r h e hm hw _ _ => by
    have : size p = 0 := by simpa [mkd] using hm
    exact absurd (by simp [this]) hw⟩
/-- a head is taken from those that wait -/
theorem Mk.pop {bs : List (List Int)} {M : Nat → Bool} {W : List Nat} {a : Nat} (k : Mk bs M (W ++ [a]) (fun _ => False)) : Mk bs M W (fun x => x = a) :=
  ⟨k.door, k.re, fun h hh => k.wait h (List.mem_append_left _ hh), fun p fs r h e hm hw hx => k.cl p fs r h e hm (fun z => by
    rcases List.mem_append.mp z with z | z
    · exact hw z
    · exact hx (by simpa using z)) (fun z => z)⟩
/-- a head is marked and waits -/
theorem Mk.push {bs p r : List (List Int)} {fs : List Int} {M : Nat → Bool} {W : List Nat} {X : Nat → Prop} {g : Nat} (k : Mk bs M W X) (e : bs = p ++ fs :: r) (ha : M (size p) = true) (hg : lk g ∈ fs) (hp : g ∈ places 0 bs) : Mk bs (mkd M g) (W ++ [g]) X := by
  refine ⟨mkd_of k.door, fun h hh => ?_, fun h hh => ?_, fun p' fs' r' h e' hm hw hx hl => ?_⟩
  · rcases mkd_or hh with rfl | hh
    · exact ⟨hp, .step e (k.re _ ha).2 hg hp⟩
    · exact k.re h hh
  · rcases List.mem_append.mp hh with z | z
    · exact mkd_of (k.wait h z)
    · have : h = g := by simpa using z
      subst this
      exact mkd_self
  · rcases mkd_or hm with z | z
    · exact absurd (by rw [z]; simp) hw
    · exact mkd_of (k.cl p' fs' r' h e' z (fun q => hw (List.mem_append_left _ q)) hx hl)
/-- the box at hand is done -/
theorem Mk.done {bs p r : List (List Int)} {fs : List Int} {M : Nat → Bool} {W : List Nat} (k : Mk bs M W (fun x => x = size p)) (e : bs = p ++ fs :: r) (hf : Fd fs M fs.length) : Mk bs M W (fun _ => False) :=
  ⟨k.door, k.re, k.wait, fun p' fs' r' h e' hm hw hx hl => by
    by_cases z : size p' = size p
    · obtain ⟨_, e2, _⟩ := split_uniq (e'.symm.trans e) z
      subst e2
      obtain ⟨i, hi, ei⟩ := List.mem_iff_getElem.mp hl
      exact hf i h hi (by rw [List.getElem?_eq_getElem hi, ei])
    · exact k.cl p' fs' r' h e' hm hw z hl⟩
/-- where none waits, just the boxes that can be come to are marked -/
theorem Mk.all {bs : List (List Int)} {M : Nat → Bool} (k : Mk bs M [] (fun _ => False)) (h : Nat) : M h = alive bs h := by
  have go : Reach bs h → M h = true := fun r => by
    induction r with
    | door => exact k.door
    | step e _ m _ ih => exact k.cl _ _ _ _ e ih (fun z => nomatch z) (fun z => z) m
  cases e : M h with
  | true => exact (alive_iff.mpr (k.re h e).2).symm
  | false =>
    cases e2 : alive bs h with
    | true =>
      have := go (alive_iff.mp e2)
      rw [e] at this
      cases this
    | false => rfl
end TS
namespace TS
/-! ### the law's own boxes -/
inductive Th where
  | num (n : Int) | box (k : Nat)
  deriving DecidableEq
/-- the word of a thing, g tells where the boxes are -/
def wordT (g : Nat → Int) : Th → Int
  | .num n => 2 * n
  | .box k => 2 * g k + 1
def bsOf (g : Nat → Int) (bxs : List (List Th)) : List (List Int) := bxs.map fun fs => fs.map (wordT g)
def sizeT : List (List Th) → Nat
  | [] => 0
  | fs :: r => 1 + fs.length + sizeT r
def placesT : Nat → List (List Th) → List Nat
  | _, [] => []
  | a, fs :: r => a :: placesT (a + 1 + fs.length) r
/-- the place of a box -/
def plT (bxs : List (List Th)) (k : Nat) : Nat := sizeT (bxs.take k)
theorem size_bsOf (g : Nat → Int) : ∀ bxs : List (List Th), size (bsOf g bxs) = sizeT bxs
  | [] => rfl
  | fs :: r => by
    show 1 + (fs.map (wordT g)).length + size (bsOf g r) = 1 + fs.length + sizeT r
    rw [List.length_map, size_bsOf g r]
theorem places_bsOf (g : Nat → Int) : ∀ (a : Nat) (bxs : List (List Th)), places a (bsOf g bxs) = placesT a bxs
  | _, [] => rfl
  | a, fs :: r => by
    show a :: places (a + 1 + (fs.map (wordT g)).length) (bsOf g r) = a :: placesT (a + 1 + fs.length) r
    rw [List.length_map, places_bsOf g _ r]
theorem placesT_len : ∀ (a : Nat) (bxs : List (List Th)), (placesT a bxs).length = bxs.length
  | _, [] => rfl
  | a, fs :: r => by
    show (placesT (a + 1 + fs.length) r).length + 1 = r.length + 1
    rw [placesT_len]
theorem placesT_get : ∀ (a : Nat) (bxs : List (List Th)) (k : Nat), k < bxs.length → (placesT a bxs)[k]? = some (a + plT bxs k)
  | _, [], k, h => absurd h (Nat.not_lt_zero _)
  | a, fs :: r, 0, _ => rfl
  | a, fs :: r, k + 1, h => by
    show (placesT (a + 1 + fs.length) r)[k]? = some (a + (1 + fs.length + plT r k))
    rw [placesT_get _ r k (by simpa using h)]
    congr 1
    omega
theorem placesT_get0 {bxs : List (List Th)} {k : Nat} (h : k < bxs.length) : (placesT 0 bxs)[k]? = some (plT bxs k) := by
  rw [placesT_get 0 bxs k h, Nat.zero_add]
theorem placesT_mem {bxs : List (List Th)} {h : Nat} (m : h ∈ placesT 0 bxs) : ∃ k, k < bxs.length ∧ h = plT bxs k := by
  obtain ⟨k, hk, e⟩ := List.mem_iff_getElem.mp m
  have hk' : k < bxs.length := by rw [← placesT_len 0 bxs]; exact hk
  have := placesT_get0 hk'
  rw [List.getElem?_eq_getElem hk] at this
  exact ⟨k, hk', by rw [← e]; exact Option.some.inj this⟩
theorem sizeT_append : ∀ (p r : List (List Th)), sizeT (p ++ r) = sizeT p + sizeT r
  | [], r => by simp [sizeT]
  | fs :: p, r => by
    show 1 + fs.length + sizeT (p ++ r) = 1 + fs.length + sizeT p + sizeT r
    rw [sizeT_append p r]
    omega
theorem plT_succ {bxs : List (List Th)} {k : Nat} {fs : List Th} (h : bxs[k]? = some fs) : plT bxs (k + 1) = plT bxs k + 1 + fs.length := by
  unfold plT
  rw [List.take_add_one, h, sizeT_append]
  show _ + (1 + fs.length + 0) = _
  omega
theorem plT_mono {bxs : List (List Th)} {j k : Nat} (h : j ≤ k) : plT bxs j ≤ plT bxs k := by
  unfold plT
  have e : bxs.take k = bxs.take j ++ (bxs.take k).drop j := by
    conv => lhs; rw [← List.take_append_drop j (bxs.take k)]
    rw [List.take_take, Nat.min_eq_left h]
  rw [e, sizeT_append]
  omega
theorem plT_lt {bxs : List (List Th)} {j k : Nat} (h : j < k) (hj : j < bxs.length) : plT bxs j < plT bxs k := by
  have h1 := plT_succ (List.getElem?_eq_getElem hj)
  have h2 := plT_mono (bxs := bxs) (show j + 1 ≤ k from h)
  omega
theorem plT_inj {bxs : List (List Th)} {j k : Nat} (hj : j < bxs.length) (hk : k < bxs.length) (e : plT bxs j = plT bxs k) : j = k := by
  rcases Nat.lt_trichotomy j k with h | h | h
  · have := plT_lt h hj; omega
  · exact h
  · have := plT_lt h hk; omega
theorem plT_zero {bxs : List (List Th)} : plT bxs 0 = 0 := rfl
theorem plT_top {bxs : List (List Th)} : plT bxs bxs.length = sizeT bxs := by
  unfold plT
  rw [List.take_length]
/-- links lead to boxes -/
def VB (bxs : List (List Th)) : Prop := ∀ fs ∈ bxs, ∀ k, Th.box k ∈ fs → k < bxs.length
def pg (bxs : List (List Th)) (k : Nat) : Int := (plT bxs k : Int)
theorem VB.valid {bxs : List (List Th)} (v : VB bxs) : Valid (bsOf (pg bxs) bxs) := by
  intro fs hf x hx ho
  obtain ⟨gs, hg, rfl⟩ := List.mem_map.mp hf
  obtain ⟨t, ht, rfl⟩ := List.mem_map.mp hx
  cases t with
  | num n =>
    exfalso
    have : (2 * n) % 2 = 1 := ho
    omega
  | box k =>
    have hk := v gs hg k ht
    refine ⟨plT bxs k, rfl, ?_⟩
    rw [places_bsOf]
    exact List.mem_of_getElem? (placesT_get0 hk)
/-- the boxes that can be come to, by their numbers -/
inductive RI (bxs : List (List Th)) : Nat → Prop
  | door : RI bxs 0
  | step {i k : Nat} {fs : List Th} (a : RI bxs i) (e : bxs[i]? = some fs) (m : Th.box k ∈ fs) : RI bxs k
open Classical in
noncomputable def aliveT (bxs : List (List Th)) (k : Nat) : Bool := decide (RI bxs k)
theorem aliveT_iff {bxs : List (List Th)} {k : Nat} : aliveT bxs k = true ↔ RI bxs k := by unfold aliveT; simp
theorem RI.lt {bxs : List (List Th)} (v : VB bxs) (h0 : 0 < bxs.length) {k : Nat} (r : RI bxs k) : k < bxs.length := by
  cases r with
  | door => exact h0
  | step a e m => exact v _ (List.mem_of_getElem? e) _ m
noncomputable def keptT (bxs : List (List Th)) : List Nat := (List.range bxs.length).filter (aliveT bxs)
theorem bsOf_get {g : Nat → Int} {bxs : List (List Th)} {k : Nat} {fs : List Th} (h : bxs[k]? = some fs) : ∃ p r, bsOf g bxs = p ++ fs.map (wordT g) :: r ∧ size p = plT bxs k := by
  have hk := (List.getElem?_eq_some_iff.mp h).1
  refine ⟨bsOf g (bxs.take k), bsOf g (bxs.drop (k + 1)), ?_, by rw [size_bsOf]; rfl⟩
  have e : bxs = bxs.take k ++ fs :: bxs.drop (k + 1) := by
    have h1 := List.take_append_drop k bxs
    have h2 : bxs.drop k = fs :: bxs.drop (k + 1) := by
      rw [List.drop_eq_getElem_cons hk]
      rw [List.getElem?_eq_getElem hk] at h
      rw [Option.some.inj h]
    rw [h2] at h1
    exact h1.symm
  conv => lhs; rw [e]
  unfold bsOf
  rw [List.map_append, List.map_cons]
theorem reach_of {bxs : List (List Th)} (v : VB bxs) (h0 : 0 < bxs.length) {k : Nat} (r : RI bxs k) : Reach (bsOf (pg bxs) bxs) (plT bxs k) := by
  induction r with
  | door => exact .door
  | @step i k fs a e m ih =>
    obtain ⟨p, r, eb, es⟩ := bsOf_get (g := pg bxs) e
    refine .step eb (by rw [es]; exact ih) (List.mem_map.mpr ⟨_, m, rfl⟩) ?_
    rw [places_bsOf]
    exact List.mem_of_getElem? (placesT_get0 (v fs (List.mem_of_getElem? e) k m))
theorem of_reach {bxs : List (List Th)} (v : VB bxs) (h0 : 0 < bxs.length) {h : Nat} (r : Reach (bsOf (pg bxs) bxs) h) : ∃ k, k < bxs.length ∧ h = plT bxs k ∧ RI bxs k := by
  induction r with
  | door => exact ⟨0, h0, rfl, .door⟩
  | @step p r fs h e a m kk ih =>
    obtain ⟨i, hi, ei, ri⟩ := ih
    rw [places_bsOf] at kk
    obtain ⟨k, hk, ek⟩ := placesT_mem kk
    obtain ⟨p', r', eb, es⟩ := bsOf_get (g := pg bxs) (List.getElem?_eq_getElem hi)
    obtain ⟨_, e2, _⟩ := split_uniq (e.symm.trans eb) (by rw [es]; exact ei)
    rw [e2] at m
    obtain ⟨t, ht, et⟩ := List.mem_map.mp m
    refine ⟨k, hk, ek, .step ri (List.getElem?_eq_getElem hi) (k := k) ?_⟩
    cases t with
    | num n =>
      exfalso
      have : 2 * n = lk h := et
      unfold lk at this
      omega
    | box j =>
      have e3 : 2 * (plT bxs j : Int) + 1 = lk h := et
      have hj : plT bxs j = plT bxs k := by
        rw [← ek]
        unfold lk at e3
        omega
      have := plT_inj (v _ (List.mem_of_getElem? (List.getElem?_eq_getElem hi)) j ht) hk hj
      rw [← this]
      exact ht
theorem alive_pl {bxs : List (List Th)} (v : VB bxs) (h0 : 0 < bxs.length) {k : Nat} (hk : k < bxs.length) : alive (bsOf (pg bxs) bxs) (plT bxs k) = aliveT bxs k := by
  cases e : aliveT bxs k with
  | true => exact alive_iff.mpr (reach_of v h0 (aliveT_iff.mp e))
  | false =>
    cases e2 : alive (bsOf (pg bxs) bxs) (plT bxs k) with
    | false => rfl
    | true =>
      obtain ⟨j, hj, ej, rj⟩ := of_reach v h0 (alive_iff.mp e2)
      have := plT_inj hk hj ej
      rw [this] at e
      rw [aliveT_iff.mpr rj] at e
      cases e
/-! ### sorted lists of numbers -/
theorem sorted_eq : ∀ {l m : List Nat}, l.Pairwise (· < ·) → m.Pairwise (· < ·) → (∀ x, x ∈ l ↔ x ∈ m) → l = m
  | [], [], _, _, _ => rfl
  | [], y :: m, _, _, e => nomatch (e y).mpr List.mem_cons_self
  | x :: l, [], _, _, e => nomatch (e x).mp List.mem_cons_self
  | x :: l, y :: m, h1, h2, e => by
    have a := List.pairwise_cons.mp h1
    have b := List.pairwise_cons.mp h2
    have exy : x = y := by
      rcases List.mem_cons.mp ((e x).mp List.mem_cons_self) with z | z
      · exact z
      · rcases List.mem_cons.mp ((e y).mpr List.mem_cons_self) with z' | z'
        · exact z'.symm
        · have := b.1 x z
          have := a.1 y z'
          omega
    subst exy
    rw [sorted_eq a.2 b.2 fun z => ?_]
    constructor
    · intro hz
      rcases List.mem_cons.mp ((e z).mp (List.mem_cons_of_mem _ hz)) with q | q
      · have := a.1 z hz
        omega
      · exact q
    · intro hz
      rcases List.mem_cons.mp ((e z).mpr (List.mem_cons_of_mem _ hz)) with q | q
      · have := b.1 z hz
        omega
      · exact q
theorem nodup_len : ∀ (m : Nat) (l : List Nat), l.Nodup → (∀ x ∈ l, x < m) → l.length ≤ m
  | 0, [], _, _ => Nat.le_refl _
  | 0, x :: l, _, h => absurd (h x List.mem_cons_self) (Nat.not_lt_zero _)
  | m + 1, l, nd, h => by
    by_cases e : m ∈ l
    · have h1 := nodup_len m (l.erase m) (nd.erase m) fun x hx => by
        have h2 := (nd.mem_erase_iff).mp hx
        have := h x h2.2
        omega
      rw [List.length_erase_of_mem e] at h1
      omega
    · have h1 := nodup_len m l nd fun x hx => by
        have := h x hx
        have : x ≠ m := fun z => e (z ▸ hx)
        omega
      omega
theorem keptT_sorted (bxs : List (List Th)) : (keptT bxs).Pairwise (· < ·) := by
  unfold keptT
  exact List.pairwise_lt_range.filter _
theorem keptT_mem {bxs : List (List Th)} (v : VB bxs) (h0 : 0 < bxs.length) {k : Nat} : k ∈ keptT bxs ↔ RI bxs k := by
  unfold keptT
  rw [List.mem_filter, List.mem_range, aliveT_iff]
  exact ⟨fun h => h.2, fun h => ⟨h.lt v h0, h⟩⟩
/-! ### the law's search -/
/-- the first t numbers of F are done, of the next one the boxes ahead of the j-th field -/
structure Bf (bxs : List (List Th)) (F : List Nat) (t : Nat) : Prop where
  nd : F.Nodup
  zero : 0 ∈ F
  re : ∀ k ∈ F, RI bxs k
  dn : ∀ i k0 fs k, i < t → F[i]? = some k0 → bxs[k0]? = some fs → Th.box k ∈ fs → k ∈ F
theorem Bf.start {bxs : List (List Th)} : Bf bxs [0] 0 := ⟨by simp, by simp, fun k hk => by
  have : k = 0 := by simpa using hk
  subst this
  exact .door, fun i _ _ _ h => absurd h (Nat.not_lt_zero _)⟩
theorem Bf.add {bxs : List (List Th)} {F : List Nat} {t k : Nat} (b : Bf bxs F t) (ht : t ≤ F.length) (nk : k ∉ F) (r : RI bxs k) : Bf bxs (F ++ [k]) t := by
  refine ⟨?_, List.mem_append_left _ b.zero, fun j hj => ?_, fun i k0 fs j hi e e2 m => ?_⟩
  · refine List.nodup_append.mpr ⟨b.nd, by simp, fun x hx y hy => ?_⟩
    have : y = k := by simpa using hy
    subst this
    intro z
    exact nk (z ▸ hx)
  · rcases List.mem_append.mp hj with z | z
    · exact b.re j z
    · have : j = k := by simpa using z
      subst this
      exact r
  · rw [List.getElem?_append_left (by omega)] at e
    exact List.mem_append_left _ (b.dn i k0 fs j hi e e2 m)
theorem Bf.next {bxs : List (List Th)} {F : List Nat} {t k0 : Nat} {fs : List Th} (b : Bf bxs F t) (e : F[t]? = some k0) (e2 : bxs[k0]? = some fs) (h : ∀ k, Th.box k ∈ fs → k ∈ F) : Bf bxs F (t + 1) :=
  ⟨b.nd, b.zero, b.re, fun i k1 gs k hi e3 e4 m => by
    by_cases z : i < t
    · exact b.dn i k1 gs k z e3 e4 m
    · have : i = t := by omega
      subst this
      rw [e] at e3
      cases Option.some.inj e3
      rw [e2] at e4
      cases Option.some.inj e4
      exact h k m⟩
theorem Bf.skip {bxs : List (List Th)} {F : List Nat} {t : Nat} (b : Bf bxs F t) (h : F.length ≤ t) : Bf bxs F (t + 1) :=
  ⟨b.nd, b.zero, b.re, fun i k1 gs k hi e3 e4 m => b.dn i k1 gs k (by have := (List.getElem?_eq_some_iff.mp e3).1; omega) e3 e4 m⟩
theorem Bf.all {bxs : List (List Th)} {F : List Nat} (v : VB bxs) (h0 : 0 < bxs.length) (b : Bf bxs F bxs.length) (k : Nat) : k ∈ F ↔ RI bxs k := by
  refine ⟨b.re k, fun r => ?_⟩
  have hl : F.length ≤ bxs.length := nodup_len _ _ b.nd fun x hx => (b.re x hx).lt v h0
  induction r with
  | door => exact b.zero
  | @step i k fs a e m ih =>
    obtain ⟨j, hj, ej⟩ := List.mem_iff_getElem.mp ih
    exact b.dn j i fs k (by omega) (by rw [List.getElem?_eq_getElem hj, ej]) e m
theorem placesT_append : ∀ (a : Nat) (p r : List (List Th)), placesT a (p ++ r) = placesT a p ++ placesT (a + sizeT p) r
  | a, [], r => by simp [placesT, sizeT]
  | a, fs :: p, r => by
    show a :: placesT (a + 1 + fs.length) (p ++ r) = (a :: placesT (a + 1 + fs.length) p) ++ placesT (a + (1 + fs.length + sizeT p)) r
    rw [placesT_append _ p r, List.cons_append, show a + 1 + fs.length + sizeT p = a + (1 + fs.length + sizeT p) by omega]
theorem placesT_snoc {bxs : List (List Th)} {i : Nat} {fs : List Th} (h : bxs[i]? = some fs) : placesT 0 (bxs.take (i + 1)) = placesT 0 (bxs.take i) ++ [plT bxs i] := by
  rw [List.take_add_one, h, Option.toList_some, placesT_append, Nat.zero_add]
  rfl
/-- the cells of the law's boxes -/
def rowT (g : Nat → Int) : List (List Th) → List Int
  | [] => []
  | fs :: r => (4 * (fs.length : Int)) :: (fs.map (wordT g) ++ rowT g r)
theorem rowT_eq (g : Nat → Int) : ∀ (a : Nat) (bxs : List (List Th)), mflat (fun _ => false) a (bsOf g bxs) = rowT g bxs
  | _, [] => rfl
  | a, fs :: r => by
    show (4 * ((fs.map (wordT g)).length : Int) + if false = true then 2 else 0) :: (fs.map (wordT g) ++ mflat (fun _ => false) (a + 1 + (fs.map (wordT g)).length) (bsOf g r)) = _
    rw [rowT_eq g _ r, List.length_map, if_neg Bool.false_ne_true, Int.add_zero]
    rfl
theorem rowT_append (g : Nat → Int) : ∀ (p r : List (List Th)), rowT g (p ++ r) = rowT g p ++ rowT g r
  | [], r => rfl
  | fs :: p, r => by
    show _ :: (_ ++ rowT g (p ++ r)) = (_ :: (_ ++ rowT g p)) ++ rowT g r
    rw [rowT_append g p r, List.cons_append, List.append_assoc]
theorem rowT_snoc (g : Nat → Int) {bxs : List (List Th)} {i : Nat} {fs : List Th} (h : bxs[i]? = some fs) : rowT g (bxs.take (i + 1)) = rowT g (bxs.take i) ++ (4 * (fs.length : Int)) :: fs.map (wordT g) := by
  rw [List.take_add_one, h, Option.toList_some, rowT_append]
  show _ ++ _ :: (_ ++ []) = _
  rw [List.append_nil]
theorem rowT_len (g : Nat → Int) : ∀ bxs : List (List Th), (rowT g bxs).length = sizeT bxs
  | [] => rfl
  | fs :: r => by
    show (fs.map (wordT g) ++ rowT g r).length + 1 = 1 + fs.length + sizeT r
    rw [List.length_append, List.length_map, rowT_len g r]
    omega
theorem sizeT_take {bxs : List (List Th)} (i : Nat) : sizeT (bxs.take i) ≤ sizeT bxs := by
  have h := sizeT_append (bxs.take i) (bxs.drop i)
  rw [List.take_append_drop] at h
  omega
theorem sizeT_field {bxs : List (List Th)} {i : Nat} {fs : List Th} (h : bxs[i]? = some fs) : plT bxs i + 1 + fs.length ≤ sizeT bxs := by
  rw [← plT_succ h]
  exact sizeT_take (i + 1)
theorem kept_of {bxs : List (List Th)} (v : VB bxs) (h0 : 0 < bxs.length) {F : List Nat} {ns : List Int} (nd : F.Nodup) (h : ∀ k, k ∈ F ↔ RI bxs k) (p : ns.Perm (F.map fun k : Nat => (k : Int))) (s : ns.Pairwise (· ≤ ·)) : ns = (keptT bxs).map fun k : Nat => (k : Int) := by
  have e1 : ns = (ns.map Int.toNat).map fun k : Nat => (k : Int) := by
    rw [List.map_map]
    conv => lhs; rw [← List.map_id ns]
    refine List.map_congr_left fun x hx => ?_
    obtain ⟨k, _, rfl⟩ := List.mem_map.mp (p.mem_iff.mp hx)
    rfl
  have p2 : (ns.map Int.toNat).Perm F := by
    have := p.map Int.toNat
    rw [List.map_map] at this
    have e : (F.map (Int.toNat ∘ fun k : Nat => (k : Int))) = F := by
      conv => rhs; rw [← List.map_id F]
      exact List.map_congr_left fun x _ => rfl
    rw [e] at this
    exact this
  have nd2 : (ns.map Int.toNat).Nodup := p2.nodup_iff.mpr nd
  have s2 : (ns.map Int.toNat).Pairwise (· ≤ ·) := by
    refine List.pairwise_map.mpr (s.imp fun {a b} hab => ?_)
    omega
  have s3 : (ns.map Int.toNat).Pairwise (· < ·) := (s2.and nd2).imp fun {a b} hab => by
    have h1 := hab.1
    have h2 : a ≠ b := hab.2
    omega
  have e2 : ns.map Int.toNat = keptT bxs := sorted_eq s3 (keptT_sorted bxs) fun k => by
    rw [p2.mem_iff, h k, keptT_mem v h0]
  rw [← e2]
  exact e1
end TS
namespace TS
theorem wordT_congr {g g' : Nat → Int} {fs : List Th} (h : ∀ k, Th.box k ∈ fs → g k = g' k) : fs.map (wordT g) = fs.map (wordT g') := List.map_congr_left fun t ht => by
  cases t with
  | num n => rfl
  | box k =>
    show 2 * g k + 1 = 2 * g' k + 1
    rw [h k ht]
theorem rowT_congr {g g' : Nat → Int} : ∀ {bxs : List (List Th)}, (∀ fs ∈ bxs, ∀ k, Th.box k ∈ fs → g k = g' k) → rowT g bxs = rowT g' bxs
  | [], _ => rfl
  | fs :: r, h => by
    show _ :: (fs.map (wordT g) ++ rowT g r) = _ :: (fs.map (wordT g') ++ rowT g' r)
    rw [wordT_congr (h fs List.mem_cons_self), rowT_congr fun gs hg => h gs (List.mem_cons_of_mem _ hg)]
theorem sum_sizes : ∀ bxs : List (List Th), (bxs.map fun fs => (1 : Int) + (fs.length : Int)).sum = (sizeT bxs : Int)
  | [] => rfl
  | fs :: r => by
    rw [List.map_cons, List.sum_cons, sum_sizes r]
    show _ = ((1 + fs.length + sizeT r : Nat) : Int)
    omega
/-- the marks of the first i boxes that the law comes to -/
noncomputable def MK (bxs : List (List Th)) (i : Nat) (h : Nat) : Bool := ((keptT bxs).take i).any fun k => plT bxs k == h
theorem MK_zero {bxs : List (List Th)} : MK bxs 0 = fun _ => false := rfl
theorem MK_iff {bxs : List (List Th)} {i h : Nat} : MK bxs i h = true ↔ ∃ k ∈ (keptT bxs).take i, plT bxs k = h := by
  unfold MK
  rw [List.any_eq_true]
  constructor
  · rintro ⟨k, hk, e⟩
    exact ⟨k, hk, by simpa using e⟩
  · rintro ⟨k, hk, e⟩
    exact ⟨k, hk, by simpa using e⟩
theorem kept_lt {bxs : List (List Th)} {k : Nat} (h : k ∈ keptT bxs) : k < bxs.length := by
  unfold keptT at h
  exact List.mem_range.mp (List.mem_filter.mp h).1
theorem MK_new {bxs : List (List Th)} {i k : Nat} (h : (keptT bxs)[i]? = some k) : MK bxs i (plT bxs k) = false := by
  cases e : MK bxs i (plT bxs k) with
  | false => rfl
  | true =>
    obtain ⟨j, hj, ej⟩ := MK_iff.mp e
    have hk := kept_lt (List.mem_of_getElem? h)
    have hj2 := kept_lt (List.mem_of_mem_take hj)
    have ejk := plT_inj hj2 hk ej
    subst ejk
    have s := keptT_sorted bxs
    obtain ⟨m, hm, em⟩ := List.mem_iff_getElem.mp hj
    rw [List.getElem_take] at em
    have hm2 : m < i := by
      rw [List.length_take] at hm
      omega
    obtain ⟨hi, ei⟩ := List.getElem?_eq_some_iff.mp h
    have := List.pairwise_iff_getElem.mp s m i (by omega) hi hm2
    omega
theorem MK_succ {bxs : List (List Th)} {i k : Nat} (h : (keptT bxs)[i]? = some k) : MK bxs (i + 1) = mkd (MK bxs i) (plT bxs k) := by
  funext x
  unfold MK mkd
  rw [List.take_add_one, h, Option.toList_some, List.any_append]
  simp only [List.any_cons, List.any_nil, Bool.or_false]
  rw [Bool.or_comm, Bool.beq_comm]
theorem MK_all {bxs : List (List Th)} (v : VB bxs) (h0 : 0 < bxs.length) : mflat (MK bxs (keptT bxs).length) 0 (bsOf (pg bxs) bxs) = mflat (alive (bsOf (pg bxs) bxs)) 0 (bsOf (pg bxs) bxs) := mflat_below fun h hh => by
  rw [places_bsOf] at hh
  obtain ⟨k, hk, rfl⟩ := placesT_mem hh
  rw [alive_pl v h0 hk]
  cases e : aliveT bxs k with
  | true => exact MK_iff.mpr ⟨k, by rw [List.take_length]; exact (keptT_mem v h0).mpr (aliveT_iff.mp e), rfl⟩
  | false =>
    cases e2 : MK bxs (keptT bxs).length (plT bxs k) with
    | false => rfl
    | true =>
      obtain ⟨j, hj, ej⟩ := MK_iff.mp e2
      rw [List.take_length] at hj
      have := plT_inj (kept_lt hj) hk ej
      subst this
      rw [aliveT_iff.mpr ((keptT_mem v h0).mp hj)] at e
      cases e
theorem pg_get {bxs : List (List Th)} {k : Nat} (h : k < bxs.length) : ((placesT 0 bxs).map fun k : Nat => (k : Int)).getD k 0 = pg bxs k := by
  rw [List.getD_eq_getElem?_getD, List.getElem?_map, placesT_get0 h]
  rfl
/-- the boxes' words by their own places -/
theorem rowT_pg {bxs : List (List Th)} (v : VB bxs) : rowT (fun k => ((placesT 0 bxs).map fun k : Nat => (k : Int)).getD k 0) bxs = mflat (fun _ => false) 0 (bsOf (pg bxs) bxs) := by
  rw [rowT_eq]
  exact rowT_congr fun fs hf k hk => pg_get (v fs hf k hk)
end TS
namespace TS
/-! ### what the law expects of the row pushed together -/
/-- the boxes that stay, of the first n -/
noncomputable def keptTo (bxs : List (List Th)) (n : Nat) : List Nat := (List.range n).filter (aliveT bxs)
def boxAt (bxs : List (List Th)) (k : Nat) : List Th := bxs.getD k []
noncomputable def kb (bxs : List (List Th)) (n : Nat) : List (List Th) := (keptTo bxs n).map (boxAt bxs)
theorem boxAt_eq {bxs : List (List Th)} {k : Nat} {fs : List Th} (h : bxs[k]? = some fs) : boxAt bxs k = fs := by
  unfold boxAt
  rw [List.getD_eq_getElem?_getD, h]
  rfl
theorem keptTo_succ {bxs : List (List Th)} {n : Nat} : keptTo bxs (n + 1) = keptTo bxs n ++ if aliveT bxs n then [n] else [] := by
  unfold keptTo
  rw [List.range_succ, List.filter_append]
  congr 1
  rw [List.filter_cons, List.filter_nil]
theorem kb_succ {bxs : List (List Th)} {n : Nat} {fs : List Th} (h : bxs[n]? = some fs) : kb bxs (n + 1) = kb bxs n ++ if aliveT bxs n then [fs] else [] := by
  unfold kb
  rw [keptTo_succ, List.map_append]
  congr 1
  cases aliveT bxs n with
  | true =>
    rw [if_pos rfl, if_pos rfl]
    show [boxAt bxs n] = [fs]
    rw [boxAt_eq h]
  | false => rfl
theorem bsOf_append (g : Nat → Int) (p r : List (List Th)) : bsOf g (p ++ r) = bsOf g p ++ bsOf g r := List.map_append
theorem bsOf_take (g : Nat → Int) {bxs : List (List Th)} {n : Nat} {fs : List Th} (h : bxs[n]? = some fs) : bsOf g (bxs.take (n + 1)) = bsOf g (bxs.take n) ++ [fs.map (wordT g)] := by
  rw [List.take_add_one, h, Option.toList_some, bsOf_append]
  rfl
theorem relink_word (q : Nat → Nat) (bxs : List (List Th)) (t : Th) : relink q (wordT (pg bxs) t) = wordT (fun k => (q (plT bxs k) : Int)) t := by
  cases t with
  | num n =>
    unfold relink
    rw [if_neg]
    · rfl
    · intro z
      have : (2 * n) % 2 = 1 := z
      omega
  | box k =>
    unfold relink
    have e : wordT (pg bxs) (.box k) = lk (plT bxs k) := rfl
    rw [e, if_pos (lk_odd _), lk_half, Int.toNat_natCast]
    rfl
section
variable {bxs : List (List Th)} {al : Nat → Bool}
theorem out_kept (q : Nat → Nat) (ha : ∀ k, k < bxs.length → al (plT bxs k) = aliveT bxs k) : ∀ n, n ≤ bxs.length →
    outR al q 0 (bsOf (pg bxs) (bxs.take n)) = rowT (fun k => (q (plT bxs k) : Int)) (kb bxs n) ∧ ksize al 0 (bsOf (pg bxs) (bxs.take n)) = sizeT (kb bxs n)
  | 0, _ => ⟨rfl, rfl⟩
  | n + 1, h => by
    obtain ⟨e1, e2⟩ := out_kept q ha n (by omega)
    have hn : n < bxs.length := h
    have ef := List.getElem?_eq_getElem hn
    have es : size (bsOf (pg bxs) (bxs.take n)) = plT bxs n := size_bsOf _ _
    rw [bsOf_take _ ef, outR_append, ksize_append, Nat.zero_add, e1, e2, es, kb_succ ef, rowT_append, sizeT_append]
    show rowT _ _ ++ ((if al (plT bxs n) then (4 * ((bxs[n].map (wordT (pg bxs))).length : Int)) :: (bxs[n].map (wordT (pg bxs))).map (relink q) else []) ++ []) = _ ∧ _ + ((if al (plT bxs n) then 1 + (bxs[n].map (wordT (pg bxs))).length else 0) + 0) = _
    rw [ha n hn, List.length_map, List.append_nil, Nat.add_zero]
    cases aliveT bxs n with
    | true =>
      rw [if_pos rfl, if_pos rfl, if_pos rfl]
      refine ⟨?_, by show _ = _ + (1 + _ + 0); omega⟩
      congr 1
      show _ = _ :: (_ ++ [])
      rw [List.append_nil, List.map_map]
      congr 1
      exact List.map_congr_left fun t _ => relink_word q bxs t
    | false => exact ⟨rfl, rfl⟩
end
theorem kept_all (bxs : List (List Th)) : keptT bxs = keptTo bxs bxs.length := rfl
/-- the boxes that stay, ahead of the i-th of them -/
theorem kept_take {bxs : List (List Th)} {i k : Nat} (h : (keptT bxs)[i]? = some k) : (keptT bxs).take i = keptTo bxs k := by
  have hk := kept_lt (List.mem_of_getElem? h)
  have s := keptT_sorted bxs
  obtain ⟨hi, ei⟩ := List.getElem?_eq_some_iff.mp h
  refine sorted_eq (s.sublist (List.take_sublist _ _)) (List.pairwise_lt_range.filter _) fun x => ?_
  constructor
  · intro hx
    have hx2 := List.mem_of_mem_take hx
    obtain ⟨m, hm, em⟩ := List.mem_iff_getElem.mp hx
    rw [List.getElem_take] at em
    rw [List.length_take] at hm
    have := List.pairwise_iff_getElem.mp s m i (by omega) hi (by omega)
    unfold keptT at hx2
    exact List.mem_filter.mpr ⟨List.mem_range.mpr (by omega), (List.mem_filter.mp hx2).2⟩
  · intro hx
    obtain ⟨h1, h2⟩ := List.mem_filter.mp hx
    have h1 := List.mem_range.mp h1
    have hx2 : x ∈ keptT bxs := List.mem_filter.mpr ⟨List.mem_range.mpr (by omega), h2⟩
    obtain ⟨m, hm, em⟩ := List.mem_iff_getElem.mp hx2
    have hmi : m < i := by
      rcases Nat.lt_trichotomy m i with z | z | z
      · exact z
      · subst z
        rw [ei] at em
        omega
      · have := List.pairwise_iff_getElem.mp s i m hi hm z
        omega
    exact List.mem_iff_getElem.mpr ⟨m, by rw [List.length_take]; omega, by rw [List.getElem_take]; exact em⟩
/-- the place of a box that stays, behind the pushing -/
noncomputable def gl (bxs : List (List Th)) (k : Nat) : Int := (sizeT (kb bxs k) : Int)
theorem qf_kept {bxs : List (List Th)} (v : VB bxs) (h0 : 0 < bxs.length) {k : Nat} (hk : k < bxs.length) : (qf (alive (bsOf (pg bxs) bxs)) (bsOf (pg bxs) bxs) (plT bxs k) : Int) = gl bxs k := by
  have e : bsOf (pg bxs) bxs = bsOf (pg bxs) (bxs.take k) ++ bsOf (pg bxs) (bxs.drop k) := by rw [← bsOf_append, List.take_append_drop]
  have es : size (bsOf (pg bxs) (bxs.take k)) = plT bxs k := size_bsOf _ _
  have h1 : qf (alive (bsOf (pg bxs) bxs)) (bsOf (pg bxs) bxs) (plT bxs k) = ksize (alive (bsOf (pg bxs) bxs)) 0 (bsOf (pg bxs) (bxs.take k)) := by
    rw [← es]
    conv => lhs; arg 2; rw [e]
    exact qf_eq
  rw [h1, (out_kept (al := alive (bsOf (pg bxs) bxs)) (fun x => x) (fun k hk => alive_pl v h0 hk) k (by omega)).2]
  rfl
/-- a box that stays leads to boxes that stay -/
theorem kb_mem {bxs : List (List Th)} (v : VB bxs) (h0 : 0 < bxs.length) {fs : List Th} (h : fs ∈ kb bxs bxs.length) : ∃ j, RI bxs j ∧ bxs[j]? = some fs := by
  obtain ⟨j, hj, ej⟩ := List.mem_map.mp h
  have hj2 : j ∈ keptT bxs := hj
  have hl := kept_lt hj2
  have ef := List.getElem?_eq_getElem hl
  rw [boxAt_eq ef] at ej
  exact ⟨j, (keptT_mem v h0).mp hj2, by rw [← ej]; exact ef⟩
/-- the row pushed together is the law's own -/
theorem pushed_due {bxs : List (List Th)} (v : VB bxs) (h0 : 0 < bxs.length) :
    outR (alive (bsOf (pg bxs) bxs)) (qf (alive (bsOf (pg bxs) bxs)) (bsOf (pg bxs) bxs)) 0 (bsOf (pg bxs) bxs) = rowT (gl bxs) (kb bxs bxs.length) ∧ ksize (alive (bsOf (pg bxs) bxs)) 0 (bsOf (pg bxs) bxs) = sizeT (kb bxs bxs.length) := by
  have h := out_kept (al := alive (bsOf (pg bxs) bxs)) (qf (alive (bsOf (pg bxs) bxs)) (bsOf (pg bxs) bxs)) (fun k hk => alive_pl v h0 hk) bxs.length (Nat.le_refl _)
  rw [List.take_length] at h
  refine ⟨h.1.trans (rowT_congr fun fs hf k hk => ?_), h.2⟩
  obtain ⟨j, _, ej⟩ := kb_mem v h0 hf
  exact qf_kept v h0 (v fs (List.mem_of_getElem? ej) k hk)
/-! ### pushed together again -/
theorem whole_out {al : Nat → Bool} {q : Nat → Nat} : ∀ {a : Nat} {bs : List (List Int)}, (∀ h, h ∈ places a bs → al h = true) → (∀ fs ∈ bs, ∀ x ∈ fs, relink q x = x) → outR al q a bs = mflat (fun _ => false) a bs ∧ ksize al a bs = size bs
  | _, [], _, _ => ⟨rfl, rfl⟩
  | a, fs :: r, h, e => by
    obtain ⟨e1, e2⟩ := whole_out (al := al) (q := q) (a := a + 1 + fs.length) (bs := r) (fun x hx => h x (List.mem_cons_of_mem _ hx)) fun gs hg => e gs (List.mem_cons_of_mem _ hg)
    have ha := h a List.mem_cons_self
    show (if al a then (4 * (fs.length : Int)) :: fs.map (relink q) else []) ++ outR al q (a + 1 + fs.length) r = (4 * (fs.length : Int) + if false = true then 2 else 0) :: (fs ++ mflat (fun _ => false) (a + 1 + fs.length) r) ∧ (if al a then 1 + fs.length else 0) + ksize al (a + 1 + fs.length) r = 1 + fs.length + size r
    rw [ha, if_pos rfl, if_pos rfl, e1, e2, if_neg Bool.false_ne_true, Int.add_zero]
    refine ⟨?_, rfl⟩
    have em : fs.map (relink q) = fs := by
      conv => rhs; rw [← List.map_id fs]
      exact List.map_congr_left fun x hx => e fs List.mem_cons_self x hx
    rw [em]
    rfl
theorem whole_size {al : Nat → Bool} : ∀ {a : Nat} {bs : List (List Int)}, (∀ h, h ∈ places a bs → al h = true) → ksize al a bs = size bs
  | _, [], _ => rfl
  | a, fs :: r, h => by
    show (if al a then 1 + fs.length else 0) + ksize al (a + 1 + fs.length) r = 1 + fs.length + size r
    rw [h a List.mem_cons_self, if_pos rfl, whole_size fun x hx => h x (List.mem_cons_of_mem _ hx)]
theorem whole_again {bs : List (List Int)} (v : Valid bs) (h : ∀ x, x ∈ places 0 bs → Reach bs x) : outR (alive bs) (qf (alive bs) bs) 0 bs = mflat (fun _ => false) 0 bs ∧ ksize (alive bs) 0 bs = size bs := by
  refine whole_out (fun x hx => alive_iff.mpr (h x hx)) fun fs hf x hx => ?_
  unfold relink
  by_cases ho : x % 2 = 1
  · obtain ⟨g, rfl, hg⟩ := v fs hf x hx ho
    rw [if_pos ho, lk_half, Int.toNat_natCast]
    obtain ⟨p, gs, r, e, eg⟩ := places_at hg
    have h1 : qf (alive bs) bs g = ksize (alive bs) 0 p := by
      rw [eg]
      conv => lhs; arg 2; rw [e]
      exact qf_eq
    have h2 : ksize (alive bs) 0 p = size p := by
      refine whole_size fun x hx => alive_iff.mpr (h x ?_)
      rw [e, places_append]
      exact List.mem_append_left _ hx
    rw [h1, h2, ← eg]
  · rw [if_neg ho]
/-- the law's row behind the pushing -/
noncomputable def bs2 (bxs : List (List Th)) : List (List Int) := bsOf (gl bxs) (kb bxs bxs.length)
theorem kb_get {bxs : List (List Th)} {i k : Nat} (h : (keptT bxs)[i]? = some k) : (kb bxs bxs.length)[i]? = some (boxAt bxs k) := by
  show ((keptT bxs).map (boxAt bxs))[i]? = _
  rw [List.getElem?_map, h]
  rfl
theorem kb_place {bxs : List (List Th)} {i k : Nat} (h : (keptT bxs)[i]? = some k) : plT (kb bxs bxs.length) i = sizeT (kb bxs k) := by
  unfold plT
  have e : (kb bxs bxs.length).take i = kb bxs k := by
    show ((keptT bxs).map (boxAt bxs)).take i = (keptTo bxs k).map (boxAt bxs)
    rw [← List.map_take, kept_take h]
  rw [e]
theorem kb_len (bxs : List (List Th)) : (kb bxs bxs.length).length = (keptT bxs).length := by
  show ((keptT bxs).map (boxAt bxs)).length = _
  rw [List.length_map]
theorem bs2_place {bxs : List (List Th)} (v : VB bxs) (h0 : 0 < bxs.length) {k : Nat} (r : RI bxs k) : sizeT (kb bxs k) ∈ places 0 (bs2 bxs) := by
  have hk := (keptT_mem v h0).mpr r
  obtain ⟨i, hi, ei⟩ := List.mem_iff_getElem.mp hk
  have h : (keptT bxs)[i]? = some k := by rw [List.getElem?_eq_getElem hi, ei]
  unfold bs2
  rw [places_bsOf, ← kb_place h]
  exact List.mem_of_getElem? (placesT_get0 (by rw [kb_len]; exact hi))
theorem bs2_valid {bxs : List (List Th)} (v : VB bxs) (h0 : 0 < bxs.length) : Valid (bs2 bxs) := by
  intro fs hf x hx ho
  obtain ⟨gs, hg, rfl⟩ := List.mem_map.mp hf
  obtain ⟨t, ht, rfl⟩ := List.mem_map.mp hx
  cases t with
  | num n =>
    exfalso
    have : (2 * n) % 2 = 1 := ho
    omega
  | box k =>
    obtain ⟨j, rj, ej⟩ := kb_mem v h0 hg
    exact ⟨sizeT (kb bxs k), rfl, bs2_place v h0 (.step rj ej ht)⟩
theorem bs2_reach {bxs : List (List Th)} (v : VB bxs) (h0 : 0 < bxs.length) {k : Nat} (r : RI bxs k) : Reach (bs2 bxs) (sizeT (kb bxs k)) := by
  induction r with
  | door => exact .door
  | @step i k fs a e m ih =>
    have hi := (keptT_mem v h0).mpr a
    obtain ⟨j, hj, ej⟩ := List.mem_iff_getElem.mp hi
    have h : (keptT bxs)[j]? = some i := by rw [List.getElem?_eq_getElem hj, ej]
    have g := kb_get h
    rw [boxAt_eq e] at g
    obtain ⟨p, r', eb, es⟩ := bsOf_get (g := gl bxs) g
    rw [kb_place h] at es
    exact .step eb (by rw [es]; exact ih) (List.mem_map.mpr ⟨_, m, rfl⟩) (bs2_place v h0 (.step a e m))
theorem bs2_all {bxs : List (List Th)} (v : VB bxs) (h0 : 0 < bxs.length) : ∀ x, x ∈ places 0 (bs2 bxs) → Reach (bs2 bxs) x := by
  intro x hx
  have hx2 := hx
  unfold bs2 at hx2
  rw [places_bsOf] at hx2
  obtain ⟨i, hi, ei⟩ := placesT_mem hx2
  rw [kb_len] at hi
  have h : (keptT bxs)[i]? = some (keptT bxs)[i] := List.getElem?_eq_getElem hi
  rw [kb_place h] at ei
  rw [ei]
  exact bs2_reach v h0 ((keptT_mem v h0).mp (List.getElem_mem hi))
theorem kept_zero {bxs : List (List Th)} (v : VB bxs) (h0 : 0 < bxs.length) : 0 ∈ keptT bxs := (keptT_mem v h0).mpr .door
theorem bs2_ne {bxs : List (List Th)} (v : VB bxs) (h0 : 0 < bxs.length) : bs2 bxs ≠ [] := fun z => by
  have h := bs2_place v h0 (RI.door (bxs := bxs))
  rw [z] at h
  cases h
/-- of the first n numbers of those that stay -/
theorem kb_snoc {bxs : List (List Th)} {i k : Nat} {fs : List Th} (h : (keptT bxs)[i]? = some k) (e : bxs[k]? = some fs) : (kb bxs bxs.length).take (i + 1) = (kb bxs bxs.length).take i ++ [fs] := by
  rw [List.take_add_one, kb_get h, boxAt_eq e]
  rfl
end TS
namespace TS
/-! ### rooms: boxes by their numbers -/
/-- a thing as it is told: by a place -/
def toPl (bxs : List (List Th)) : Th → Th
  | .num n => .num n
  | .box k => .box (plT bxs k)
theorem word_toPl {bxs : List (List Th)} {t : Th} : wordT (pg bxs) t = wordT (fun k => (k : Int)) (toPl bxs t) := by cases t <;> rfl
/-- a room's row -/
def enc (bxs : List (List Th)) (N : Nat) : List Int := rowT (pg bxs) bxs ++ List.replicate (N - sizeT bxs) 0
structure RoomOk (bxs : List (List Th)) (N : Nat) : Prop where
  vb : VB bxs
  ne : 0 < bxs.length
  sz : sizeT bxs ≤ N
  le : N ≤ 400
theorem enc_eq {bxs : List (List Th)} {N : Nat} : enc bxs N = mflat (fun _ => false) 0 (bsOf (pg bxs) bxs) ++ List.replicate (N - sizeT bxs) 0 := by
  unfold enc
  rw [rowT_eq]
theorem enc_len {bxs : List (List Th)} {N : Nat} (h : sizeT bxs ≤ N) : (enc bxs N).length = N := by
  unfold enc
  rw [List.length_append, rowT_len, List.length_replicate]
  omega
theorem len_le_size : ∀ bxs : List (List Th), bxs.length ≤ sizeT bxs
  | [] => Nat.le_refl _
  | fs :: r => by
    have := len_le_size r
    show r.length + 1 ≤ 1 + fs.length + sizeT r
    omega
theorem pl_old {bxs r : List (List Th)} {k : Nat} (h : k ≤ bxs.length) : plT (bxs ++ r) k = plT bxs k := by
  unfold plT
  rw [List.take_append_of_le_length h]
/-! #### a box more -/
theorem enc_made {bxs : List (List Th)} {ths : List Th} {N : Nat} (ok : RoomOk bxs N) (ht : ∀ k, Th.box k ∈ ths → k < bxs.length) (hz : sizeT bxs + 1 + ths.length ≤ N) :
    enc (bxs ++ [ths]) N = (enc bxs N).take (sizeT bxs) ++ ((4 * (ths.length : Int)) :: ths.map (wordT (pg bxs))) ++ (enc bxs N).drop (sizeT bxs + (1 + ths.length)) := by
  have e1 : rowT (pg (bxs ++ [ths])) bxs = rowT (pg bxs) bxs := rowT_congr fun fs hf k hk => by
    unfold pg
    rw [pl_old (Nat.le_of_lt (ok.vb fs hf k hk))]
  have e2 : ths.map (wordT (pg (bxs ++ [ths]))) = ths.map (wordT (pg bxs)) := wordT_congr fun k hk => by
    unfold pg
    rw [pl_old (Nat.le_of_lt (ht k hk))]
  unfold enc
  rw [rowT_append, e1, sizeT_append]
  show (rowT (pg bxs) bxs ++ _ :: (ths.map (wordT (pg (bxs ++ [ths]))) ++ [])) ++ List.replicate (N - (sizeT bxs + (1 + ths.length + 0))) 0 = _
  rw [e2, List.append_nil]
  have l1 : (rowT (pg bxs) bxs).length = sizeT bxs := rowT_len _ _
  rw [List.take_append_of_le_length (by omega), List.take_of_length_le (by omega), List.drop_append, List.drop_of_length_le (by omega), l1, List.drop_replicate, List.nil_append]
  congr 2
  omega
theorem made_ok {bxs : List (List Th)} {ths : List Th} {N : Nat} (ok : RoomOk bxs N) (ht : ∀ k, Th.box k ∈ ths → k < bxs.length) (hz : sizeT bxs + 1 + ths.length ≤ N) : RoomOk (bxs ++ [ths]) N := by
  refine ⟨fun fs hf k hk => ?_, by rw [List.length_append]; have := ok.ne; omega, ?_, ok.le⟩
  · rw [List.length_append]
    rcases List.mem_append.mp hf with z | z
    · have := ok.vb fs z k hk
      omega
    · have : fs = ths := by simpa using z
      rw [this] at hk
      have := ht k hk
      omega
  · rw [sizeT_append]
    show sizeT bxs + (1 + ths.length + 0) ≤ N
    omega
/-! #### another thing for a field -/
theorem sizeT_set : ∀ {bxs : List (List Th)} {i : Nat} {fs gs : List Th}, bxs[i]? = some fs → gs.length = fs.length → sizeT (bxs.set i gs) = sizeT bxs
  | [], i, _, _, h, _ => by simp at h
  | x :: r, 0, fs, gs, h, e => by
    have : x = fs := Option.some.inj h
    subst this
    show 1 + gs.length + sizeT r = 1 + x.length + sizeT r
    rw [e]
  | x :: r, i + 1, fs, gs, h, e => by
    show 1 + x.length + sizeT (r.set i gs) = 1 + x.length + sizeT r
    rw [sizeT_set (i := i) (by simpa using h) e]
theorem pl_set {bxs : List (List Th)} {i k : Nat} {fs gs : List Th} (h : bxs[i]? = some fs) (e : gs.length = fs.length) : plT (bxs.set i gs) k = plT bxs k := by
  unfold plT
  rw [List.take_set]
  by_cases hi : i < k
  · refine sizeT_set (fs := fs) ?_ e
    rw [List.getElem?_take, if_pos hi]
    exact h
  · rw [List.set_eq_of_length_le (by rw [List.length_take]; omega)]
theorem rowT_set (g : Nat → Int) : ∀ {bxs : List (List Th)} {i f : Nat} {fs : List Th} {t : Th}, bxs[i]? = some fs → f < fs.length → rowT g (bxs.set i (fs.set f t)) = (rowT g bxs).set (plT bxs i + 1 + f) (wordT g t)
  | [], i, f, _, _, h, _ => by simp at h
  | x :: r, 0, f, fs, t, h, hf => by
    have : x = fs := Option.some.inj h
    subst this
    show (4 * ((x.set f t).length : Int)) :: ((x.set f t).map (wordT g) ++ rowT g r) = ((4 * (x.length : Int)) :: (x.map (wordT g) ++ rowT g r)).set (0 + 1 + f) (wordT g t)
    rw [List.length_set, show 0 + 1 + f = f + 1 by omega, List.set_cons_succ, List.set_append_left _ _ (by rw [List.length_map]; exact hf), List.map_set]
  | x :: r, i + 1, f, fs, t, h, hf => by
    show (4 * (x.length : Int)) :: (x.map (wordT g) ++ rowT g (r.set i (fs.set f t))) = ((4 * (x.length : Int)) :: (x.map (wordT g) ++ rowT g r)).set (1 + x.length + plT r i + 1 + f) (wordT g t)
    rw [rowT_set g (bxs := r) (i := i) (by simpa using h) hf, show 1 + x.length + plT r i + 1 + f = (x.length + (plT r i + 1 + f)) + 1 by omega, List.set_cons_succ, List.set_append_right _ _ (by rw [List.length_map]; omega), List.length_map, Nat.add_sub_cancel_left]
theorem enc_put {bxs : List (List Th)} {i f N : Nat} {fs : List Th} {t : Th} (h : bxs[i]? = some fs) (hf : f < fs.length) :
    enc (bxs.set i (fs.set f t)) N = (enc bxs N).set (plT bxs i + 1 + f) (wordT (pg bxs) t) := by
  have hl : (fs.set f t).length = fs.length := List.length_set
  have hp : pg (bxs.set i (fs.set f t)) = pg bxs := funext fun k => by unfold pg; rw [pl_set h hl]
  unfold enc
  rw [hp, sizeT_set h hl, rowT_set _ h hf, List.set_append_left]
  rw [rowT_len]
  have := sizeT_field h
  omega
theorem put_ok {bxs : List (List Th)} {i f N : Nat} {fs : List Th} {t : Th} (ok : RoomOk bxs N) (h : bxs[i]? = some fs) (hf : f < fs.length) (ht : ∀ k, t = .box k → k < bxs.length) : RoomOk (bxs.set i (fs.set f t)) N := by
  have hl : (fs.set f t).length = fs.length := List.length_set
  refine ⟨fun gs hg k hk => ?_, by rw [List.length_set]; exact ok.ne, by rw [sizeT_set h hl]; exact ok.sz, ok.le⟩
  rw [List.length_set]
  rcases List.mem_or_eq_of_mem_set hg with z | z
  · exact ok.vb gs z k hk
  · rw [z] at hk
    rcases List.mem_or_eq_of_mem_set hk with q | q
    · exact ok.vb fs (List.mem_of_getElem? h) k q
    · exact ht k q.symm
/-! #### what stands in the row -/
theorem enc_head {bxs : List (List Th)} {k N : Nat} {fs : List Th} (h : bxs[k]? = some fs) : (enc bxs N)[plT bxs k]? = some (4 * (fs.length : Int)) := by
  obtain ⟨p, r, eb, es⟩ := bsOf_get (g := pg bxs) h
  rw [enc_eq, eb, ← es, row_head, if_neg Bool.false_ne_true, Int.add_zero, List.length_map]
theorem enc_fields {bxs : List (List Th)} {k N : Nat} {fs : List Th} (h : bxs[k]? = some fs) : ((enc bxs N).drop (plT bxs k + 1)).take fs.length = fs.map (wordT (pg bxs)) := by
  obtain ⟨p, r, eb, es⟩ := bsOf_get (g := pg bxs) h
  refine List.ext_getElem? fun i => ?_
  rw [List.getElem?_take]
  by_cases hi : i < fs.length
  · rw [if_pos hi, List.getElem?_drop, enc_eq, eb, ← es, row_field (by rw [List.length_map]; exact hi)]
  · rw [if_neg hi, List.getElem?_eq_none (by rw [List.length_map]; omega)]
/-! #### pushing together -/
/-- the number of a box behind the pushing -/
noncomputable def rank (bxs : List (List Th)) (k : Nat) : Nat := (keptTo bxs k).length
noncomputable def reT (bxs : List (List Th)) : Th → Th
  | .num n => .num n
  | .box k => .box (rank bxs k)
/-- the boxes that stay, by their new numbers -/
noncomputable def kbI (bxs : List (List Th)) : List (List Th) := (kb bxs bxs.length).map fun fs => fs.map (reT bxs)
theorem rank_get {bxs : List (List Th)} {i k : Nat} (h : (keptT bxs)[i]? = some k) : rank bxs k = i := by
  unfold rank
  rw [← kept_take h, List.length_take]
  have := (List.getElem?_eq_some_iff.mp h).1
  omega
theorem rank_of {bxs : List (List Th)} (v : VB bxs) (h0 : 0 < bxs.length) {k : Nat} (r : RI bxs k) : (keptT bxs)[rank bxs k]? = some k := by
  obtain ⟨i, hi, ei⟩ := List.mem_iff_getElem.mp ((keptT_mem v h0).mpr r)
  have h : (keptT bxs)[i]? = some k := by rw [List.getElem?_eq_getElem hi, ei]
  rw [rank_get h]
  exact h
theorem sizeT_mapT (f : Th → Th) : ∀ bxs : List (List Th), sizeT (bxs.map fun fs => fs.map f) = sizeT bxs
  | [] => rfl
  | fs :: r => by
    show 1 + (fs.map f).length + sizeT (r.map fun fs => fs.map f) = 1 + fs.length + sizeT r
    rw [List.length_map, sizeT_mapT f r]
theorem pl_mapT (f : Th → Th) {bxs : List (List Th)} {k : Nat} : plT (bxs.map fun fs => fs.map f) k = plT bxs k := by
  unfold plT
  rw [← List.map_take, sizeT_mapT]
theorem kbI_len (bxs : List (List Th)) : (kbI bxs).length = (keptT bxs).length := by
  unfold kbI
  rw [List.length_map, kb_len]
theorem kbI_size (bxs : List (List Th)) : sizeT (kbI bxs) = sizeT (kb bxs bxs.length) := sizeT_mapT _ _
theorem kbI_place {bxs : List (List Th)} (v : VB bxs) (h0 : 0 < bxs.length) {k : Nat} (r : RI bxs k) : plT (kbI bxs) (rank bxs k) = sizeT (kb bxs k) := by
  unfold kbI
  rw [pl_mapT]
  exact kb_place (rank_of v h0 r)
theorem kbI_get {bxs : List (List Th)} (v : VB bxs) (h0 : 0 < bxs.length) {k : Nat} {fs : List Th} (r : RI bxs k) (h : bxs[k]? = some fs) : (kbI bxs)[rank bxs k]? = some (fs.map (reT bxs)) := by
  unfold kbI
  rw [List.getElem?_map, kb_get (rank_of v h0 r), boxAt_eq h]
  rfl
theorem rowT_map (g g' : Nat → Int) (f : Th → Th) : ∀ {bxs : List (List Th)}, (∀ fs ∈ bxs, ∀ t ∈ fs, wordT g (f t) = wordT g' t) → rowT g (bxs.map fun fs => fs.map f) = rowT g' bxs
  | [], _ => rfl
  | fs :: r, h => by
    show (4 * ((fs.map f).length : Int)) :: ((fs.map f).map (wordT g) ++ rowT g (r.map fun fs => fs.map f)) = (4 * (fs.length : Int)) :: (fs.map (wordT g') ++ rowT g' r)
    rw [List.length_map, rowT_map g g' f fun gs hg => h gs (List.mem_cons_of_mem _ hg), List.map_map]
    congr 2
    exact List.map_congr_left fun t ht => h fs List.mem_cons_self t ht
theorem kbI_row {bxs : List (List Th)} (v : VB bxs) (h0 : 0 < bxs.length) : rowT (pg (kbI bxs)) (kbI bxs) = rowT (gl bxs) (kb bxs bxs.length) := by
  conv => lhs; arg 2; unfold kbI
  refine rowT_map _ _ _ fun fs hf t ht => ?_
  obtain ⟨j, rj, ej⟩ := kb_mem v h0 hf
  cases t with
  | num n => rfl
  | box k =>
    show 2 * pg (kbI bxs) (rank bxs k) + 1 = 2 * gl bxs k + 1
    unfold pg
    rw [kbI_place v h0 (.step rj ej ht)]
    rfl
theorem kbI_ok {bxs : List (List Th)} {N : Nat} (ok : RoomOk bxs N) : RoomOk (kbI bxs) N := by
  refine ⟨fun fs hf k hk => ?_, ?_, ?_, ok.le⟩
  · unfold kbI at hf
    obtain ⟨gs, hg, rfl⟩ := List.mem_map.mp hf
    obtain ⟨t, ht, et⟩ := List.mem_map.mp hk
    obtain ⟨j, rj, ej⟩ := kb_mem ok.vb ok.ne hg
    cases t with
    | num n => cases et
    | box m =>
      have e : rank bxs m = k := Th.box.inj et
      rw [kbI_len, ← e]
      exact (List.getElem?_eq_some_iff.mp (rank_of ok.vb ok.ne (.step rj ej ht))).1
  · rw [kbI_len]
    exact List.length_pos_of_mem (kept_zero ok.vb ok.ne)
  · rw [kbI_size, ← (pushed_due ok.vb ok.ne).2]
    have := ksize_le (alive (bsOf (pg bxs) bxs)) 0 (bsOf (pg bxs) bxs)
    rw [size_bsOf] at this
    have := ok.sz
    omega
/-- what the program's pushing leaves is the room of the boxes that stay -/
theorem enc_pushed {bxs : List (List Th)} {N : Nat} (ok : RoomOk bxs N) :
    outR (alive (bsOf (pg bxs) bxs)) (qf (alive (bsOf (pg bxs) bxs)) (bsOf (pg bxs) bxs)) 0 (bsOf (pg bxs) bxs) ++ List.replicate (N - ksize (alive (bsOf (pg bxs) bxs)) 0 (bsOf (pg bxs) bxs)) 0 = enc (kbI bxs) N ∧
    ksize (alive (bsOf (pg bxs) bxs)) 0 (bsOf (pg bxs) bxs) = sizeT (kbI bxs) := by
  obtain ⟨h1, h2⟩ := pushed_due ok.vb ok.ne
  unfold enc
  rw [h1, h2, kbI_row ok.vb ok.ne, kbI_size]
  exact ⟨rfl, rfl⟩
end TS
namespace TS
/-! ### walks over a room's boxes -/
/-- where a walk goes on -/
def nextT (bxs : List (List Th)) (k : Nat) (x : Int) : Nat :=
  match (bxs.getD k [])[(x % ((bxs.getD k []).length : Int)).toNat]? with
  | some (.box m) => m
  | _ => 0
def walkT (bxs : List (List Th)) : Nat → List Int → List Nat
  | _, [] => []
  | k, x :: xs => k :: walkT bxs (nextT bxs k x) xs
def goT (bxs : List (List Th)) : Nat → List Int → Nat
  | k, [] => k
  | k, x :: xs => goT bxs (nextT bxs k x) xs
theorem walkT_snoc (bxs : List (List Th)) (x : Int) : ∀ (xs : List Int) (k : Nat), walkT bxs k (xs ++ [x]) = walkT bxs k xs ++ [goT bxs k xs]
  | [], _ => rfl
  | y :: xs, k => by
    show k :: walkT bxs (nextT bxs k y) (xs ++ [x]) = k :: (walkT bxs (nextT bxs k y) xs ++ [goT bxs (nextT bxs k y) xs])
    rw [walkT_snoc bxs x xs]
theorem goT_snoc (bxs : List (List Th)) (x : Int) : ∀ (xs : List Int) (k : Nat), goT bxs k (xs ++ [x]) = nextT bxs (goT bxs k xs) x
  | [], _ => rfl
  | y :: xs, k => goT_snoc bxs x xs _
theorem walkT_len (bxs : List (List Th)) : ∀ (xs : List Int) (k : Nat), (walkT bxs k xs).length = xs.length
  | [], _ => rfl
  | y :: xs, k => by
    show (walkT bxs (nextT bxs k y) xs).length + 1 = xs.length + 1
    rw [walkT_len bxs xs]
theorem getD_of {bxs : List (List Th)} {k : Nat} {fs : List Th} (h : bxs[k]? = some fs) : bxs.getD k [] = fs := by
  rw [List.getD_eq_getElem?_getD, h]
  rfl
theorem next_some {bxs : List (List Th)} {k : Nat} {fs : List Th} (h : bxs[k]? = some fs) (x : Int) : nextT bxs k x = match fs[(x % (fs.length : Int)).toNat]? with | some (.box m) => m | _ => 0 := by
  unfold nextT
  rw [getD_of h]
theorem next_ri {bxs : List (List Th)} {k : Nat} (v : VB bxs) (h0 : 0 < bxs.length) (r : RI bxs k) (x : Int) : RI bxs (nextT bxs k x) := by
  have h := List.getElem?_eq_getElem (r.lt v h0)
  rw [next_some h]
  generalize bxs[k]'(r.lt v h0) = fs at h
  cases e : fs[(x % (fs.length : Int)).toNat]? with
  | none => exact .door
  | some t =>
    cases t with
    | num n => exact .door
    | box m => exact .step r h (List.mem_of_getElem? e)
theorem walk_ri {bxs : List (List Th)} (v : VB bxs) (h0 : 0 < bxs.length) : ∀ (xs : List Int) (k : Nat), RI bxs k → ∀ j ∈ walkT bxs k xs, RI bxs j
  | [], _, _, _, h => (nomatch h)
  | y :: xs, k, r, j, h => by
    rcases List.mem_cons.mp h with z | z
    · rw [z]
      exact r
    · exact walk_ri v h0 xs _ (next_ri v h0 r y) j z
theorem go_ri {bxs : List (List Th)} (v : VB bxs) (h0 : 0 < bxs.length) : ∀ (xs : List Int) (k : Nat), RI bxs k → RI bxs (goT bxs k xs)
  | [], _, r => r
  | y :: xs, k, r => go_ri v h0 xs _ (next_ri v h0 r y)
theorem rank_zero (bxs : List (List Th)) : rank bxs 0 = 0 := by
  unfold rank keptTo
  rfl
theorem next_rank {bxs : List (List Th)} {k : Nat} (v : VB bxs) (h0 : 0 < bxs.length) (r : RI bxs k) (x : Int) : nextT (kbI bxs) (rank bxs k) x = rank bxs (nextT bxs k x) := by
  have h := List.getElem?_eq_getElem (r.lt v h0)
  rw [next_some h]
  generalize bxs[k]'(r.lt v h0) = fs at h
  rw [next_some (kbI_get v h0 r h), List.length_map, List.getElem?_map]
  cases e : fs[(x % (fs.length : Int)).toNat]? with
  | none => exact (rank_zero bxs).symm
  | some t =>
    cases t with
    | num n => exact (rank_zero bxs).symm
    | box m => rfl
theorem walk_rank {bxs : List (List Th)} (v : VB bxs) (h0 : 0 < bxs.length) : ∀ (xs : List Int) (k : Nat), RI bxs k → walkT (kbI bxs) (rank bxs k) xs = (walkT bxs k xs).map (rank bxs)
  | [], _, _ => rfl
  | y :: xs, k, r => by
    show rank bxs k :: walkT (kbI bxs) (nextT (kbI bxs) (rank bxs k) y) xs = rank bxs k :: (walkT bxs (nextT bxs k y) xs).map (rank bxs)
    rw [next_rank v h0 r, walk_rank v h0 xs _ (next_ri v h0 r y)]
theorem rank_lt {bxs : List (List Th)} {j k : Nat} (v : VB bxs) (h0 : 0 < bxs.length) (rj : RI bxs j) (rk : RI bxs k) (h : j < k) : rank bxs j < rank bxs k := by
  have ej := rank_of v h0 rj
  have ek := rank_of v h0 rk
  obtain ⟨h1, e1⟩ := List.getElem?_eq_some_iff.mp ej
  obtain ⟨h2, e2⟩ := List.getElem?_eq_some_iff.mp ek
  rcases Nat.lt_trichotomy (rank bxs j) (rank bxs k) with z | z | z
  · exact z
  · rw [z, ek] at ej
    have := Option.some.inj ej
    omega
  · have := List.pairwise_iff_getElem.mp (keptT_sorted bxs) _ _ h2 h1 z
    omega
theorem rank_lt_iff {bxs : List (List Th)} {j k : Nat} (v : VB bxs) (h0 : 0 < bxs.length) (rj : RI bxs j) (rk : RI bxs k) : rank bxs j < rank bxs k ↔ j < k := by
  refine ⟨fun h => ?_, rank_lt v h0 rj rk⟩
  rcases Nat.lt_trichotomy j k with z | z | z
  · exact z
  · rw [z] at h
    omega
  · have := rank_lt v h0 rk rj z
    omega
theorem rank_lt_len {bxs : List (List Th)} {j : Nat} (v : VB bxs) (h0 : 0 < bxs.length) (rj : RI bxs j) : rank bxs j < (kbI bxs).length := by
  rw [kbI_len]
  exact (List.getElem?_eq_some_iff.mp (rank_of v h0 rj)).1
theorem pl_lt_iff {bxs : List (List Th)} {j k : Nat} (hj : j < bxs.length) : plT bxs j < plT bxs k ↔ j < k := by
  refine ⟨fun h => ?_, fun h => plT_lt h hj⟩
  rcases Nat.lt_or_ge j k with z | z
  · exact z
  · have := plT_mono (bxs := bxs) z
    omega
theorem pl_rank_lt {bxs : List (List Th)} {j k : Nat} (v : VB bxs) (h0 : 0 < bxs.length) (rj : RI bxs j) (rk : RI bxs k) : plT (kbI bxs) (rank bxs j) < plT (kbI bxs) (rank bxs k) ↔ plT bxs j < plT bxs k := by
  rw [pl_lt_iff (rank_lt_len v h0 rj), pl_lt_iff (rj.lt v h0), rank_lt_iff v h0 rj rk]
theorem pl_rank_eq {bxs : List (List Th)} {j k : Nat} (v : VB bxs) (h0 : 0 < bxs.length) (rj : RI bxs j) (rk : RI bxs k) : plT (kbI bxs) (rank bxs j) = plT (kbI bxs) (rank bxs k) ↔ plT bxs j = plT bxs k := by
  have h1 := pl_rank_lt v h0 rj rk
  have h2 := pl_rank_lt v h0 rk rj
  omega
/-! #### behind a pushing all boxes can be come to -/
theorem ri_rank {bxs : List (List Th)} (v : VB bxs) (h0 : 0 < bxs.length) {k : Nat} (r : RI bxs k) : RI (kbI bxs) (rank bxs k) := by
  induction r with
  | door => rw [rank_zero]; exact .door
  | step rj e hm ih =>
    have q := kbI_get v h0 rj e
    exact .step ih q (List.mem_map.mpr ⟨_, hm, rfl⟩)
theorem ri_kb {bxs : List (List Th)} (v : VB bxs) (h0 : 0 < bxs.length) {i : Nat} (h : i < (kbI bxs).length) : RI (kbI bxs) i := by
  rw [kbI_len] at h
  have e := List.getElem?_eq_getElem h
  have r := (keptT_mem v h0).mp (List.mem_of_getElem? e)
  rw [← rank_get e]
  exact ri_rank v h0 r
theorem kbI_all {bxs : List (List Th)} (v : VB bxs) (h0 : 0 < bxs.length) : (keptT (kbI bxs)).map (plT (kbI bxs)) = placesT 0 (kbI bxs) := by
  unfold keptT
  rw [List.filter_eq_self.mpr fun k hk => aliveT_iff.mpr (ri_kb v h0 (List.mem_range.mp hk))]
  refine List.ext_getElem? fun i => ?_
  by_cases h : i < (kbI bxs).length
  · rw [placesT_get0 h, List.getElem?_map, List.getElem?_eq_getElem (by rw [List.length_range]; exact h), List.getElem_range]
    rfl
  · rw [List.getElem?_eq_none (by rw [List.length_map, List.length_range]; omega), List.getElem?_eq_none (by rw [placesT_len]; omega)]
theorem kbI_le {bxs : List (List Th)} (v : VB bxs) (h0 : 0 < bxs.length) : sizeT (kbI bxs) ≤ sizeT bxs := by
  rw [kbI_size, ← (pushed_due v h0).2]
  have := ksize_le (alive (bsOf (pg bxs) bxs)) 0 (bsOf (pg bxs) bxs)
  rw [size_bsOf] at this
  exact this
end TS

namespace Mine
open PySem PySem.Spec PyProof.Rows L2 TS
/-! ### the text -/
def topS (i : Nat) : Stmt := PySem.Challenge.pw_threadslide_k06_what_is_refused.main.body.getD i (.Pass ⟨0, 0, 0, 0⟩)
abbrev s_number_word : Stmt := topS 9
theorem sc_number_word : FnScope ["n"] ["n"] (defScope s_number_word) := ⟨rfl, rfl, rfl, by decide +kernel, rfl, by decide +kernel, by decide +kernel⟩
abbrev s_link_word : Stmt := topS 10
theorem sc_link_word : FnScope ["place"] ["place"] (defScope s_link_word) := ⟨rfl, rfl, rfl, by decide +kernel, rfl, by decide +kernel, by decide +kernel⟩
abbrev s_head_word : Stmt := topS 11
theorem sc_head_word : FnScope ["many", "marked"] ["many", "marked"] (defScope s_head_word) := ⟨rfl, rfl, rfl, by decide +kernel, rfl, by decide +kernel, by decide +kernel⟩
abbrev s_is_link : Stmt := topS 12
theorem sc_is_link : FnScope ["word"] ["word"] (defScope s_is_link) := ⟨rfl, rfl, rfl, by decide +kernel, rfl, by decide +kernel, by decide +kernel⟩
abbrev s_told_by : Stmt := topS 13
theorem sc_told_by : FnScope ["word"] ["word"] (defScope s_told_by) := ⟨rfl, rfl, rfl, by decide +kernel, rfl, by decide +kernel, by decide +kernel⟩
abbrev s_fields_of : Stmt := topS 14
theorem sc_fields_of : FnScope ["head"] ["head"] (defScope s_fields_of) := ⟨rfl, rfl, rfl, by decide +kernel, rfl, by decide +kernel, by decide +kernel⟩
abbrev s_heads : Stmt := topS 16
theorem sc_heads : FnScope ["row", "used", "found", "at"] ["row", "used"] (defScope s_heads) := ⟨rfl, rfl, rfl, by decide +kernel, rfl, by decide +kernel, by decide +kernel⟩
abbrev s_is_whole : Stmt := topS 20
theorem sc_is_whole : FnScope ["value"] ["value"] (defScope s_is_whole) := ⟨rfl, rfl, rfl, by decide +kernel, rfl, by decide +kernel, by decide +kernel⟩
abbrev s_need_thing : Stmt := topS 21
theorem sc_need_thing : FnScope ["thing"] ["thing"] (defScope s_need_thing) := ⟨rfl, rfl, rfl, by decide +kernel, rfl, by decide +kernel, by decide +kernel⟩
abbrev s_thing_of : Stmt := topS 22
theorem sc_thing_of : FnScope ["word"] ["word"] (defScope s_thing_of) := ⟨rfl, rfl, rfl, by decide +kernel, rfl, by decide +kernel, by decide +kernel⟩
abbrev s_Rinit : Stmt := inClass (topS 23) 0
theorem sc_Rinit : FnScope ["self", "size", "doors"] ["self", "size", "doors"] (defScope s_Rinit) := ⟨rfl, rfl, rfl, by decide +kernel, rfl, by decide +kernel, by decide +kernel⟩
abbrev s_Rneed_box : Stmt := inClass (topS 23) 1
theorem sc_Rneed_box : FnScope ["self", "place"] ["self", "place"] (defScope s_Rneed_box) := ⟨rfl, rfl, rfl, by decide +kernel, rfl, by decide +kernel, by decide +kernel⟩
abbrev s_Rword_of : Stmt := inClass (topS 23) 2
theorem sc_Rword_of : FnScope ["self", "thing"] ["self", "thing"] (defScope s_Rword_of) := ⟨rfl, rfl, rfl, by decide +kernel, rfl, by decide +kernel, by decide +kernel⟩
abbrev s_Rmade : Stmt := inClass (topS 23) 3
theorem sc_Rmade : FnScope ["self", "things", "thing", "words", "place"] ["self", "things"] (defScope s_Rmade) := ⟨rfl, rfl, rfl, by decide +kernel, rfl, by decide +kernel, by decide +kernel⟩
abbrev s_Rput : Stmt := inClass (topS 23) 4
theorem sc_Rput : FnScope ["self", "place", "field", "thing"] ["self", "place", "field", "thing"] (defScope s_Rput) := ⟨rfl, rfl, rfl, by decide +kernel, rfl, by decide +kernel, by decide +kernel⟩
abbrev s_Rtold : Stmt := inClass (topS 23) 5
theorem sc_Rtold : FnScope ["self", "place", "word"] ["self", "place"] (defScope s_Rtold) := ⟨rfl, rfl, rfl, by decide +kernel, rfl, by decide +kernel, by decide +kernel⟩
abbrev s_Rplaces : Stmt := inClass (topS 23) 6
theorem sc_Rplaces : FnScope ["self"] ["self"] (defScope s_Rplaces) := ⟨rfl, rfl, rfl, by decide +kernel, rfl, by decide +kernel, by decide +kernel⟩
abbrev s_Rused : Stmt := inClass (topS 23) 9
theorem sc_Rused : FnScope ["self"] ["self"] (defScope s_Rused) := ⟨rfl, rfl, rfl, by decide +kernel, rfl, by decide +kernel, by decide +kernel⟩
abbrev s_Rcells : Stmt := inClass (topS 23) 10
theorem sc_Rcells : FnScope ["self"] ["self"] (defScope s_Rcells) := ⟨rfl, rfl, rfl, by decide +kernel, rfl, by decide +kernel, by decide +kernel⟩
abbrev s_l_at : Stmt := topS 25
theorem sc_l_at : FnScope ["_law_script", "_law_place"] ["_law_script", "_law_place"] (defScope s_l_at) := ⟨rfl, rfl, rfl, by decide +kernel, rfl, by decide +kernel, by decide +kernel⟩
abbrev s_l_is_int : Stmt := topS 26
theorem sc_l_is_int : FnScope ["_law_value"] ["_law_value"] (defScope s_l_is_int) := ⟨rfl, rfl, rfl, by decide +kernel, rfl, by decide +kernel, by decide +kernel⟩
abbrev s_l_words_are : Stmt := topS 27
theorem sc_l_words_are : FnScope ["_law_found", "_law_due", "_law_k"] ["_law_found", "_law_due"] (defScope s_l_words_are) := ⟨rfl, rfl, rfl, by decide +kernel, rfl, by decide +kernel, by decide +kernel⟩
abbrev s_l_class : Stmt := topS 28
theorem sc_l_class : FnScope ["_law_error", "_law_word_here", "_law_many"] ["_law_error", "_law_word_here"] (defScope s_l_class) := ⟨rfl, rfl, rfl, by decide +kernel, rfl, by decide +kernel, by decide +kernel⟩
abbrev s_l_number : Stmt := topS 29
theorem sc_l_number : FnScope ["_law_value"] ["_law_value"] (defScope s_l_number) := ⟨rfl, rfl, rfl, by decide +kernel, rfl, by decide +kernel, by decide +kernel⟩
abbrev s_l_sized : Stmt := topS 30
theorem sc_l_sized : FnScope ["_law_size", "_law_doors"] ["_law_size", "_law_doors"] (defScope s_l_sized) := ⟨rfl, rfl, rfl, by decide +kernel, rfl, by decide +kernel, by decide +kernel⟩
abbrev s_l_new : Stmt := topS 31
theorem sc_l_new : FnScope ["_law_size", "_law_doors", "_law_room", "_law_due", "_law_error"] ["_law_size", "_law_doors"] (defScope s_l_new) := ⟨rfl, rfl, rfl, by decide +kernel, rfl, by decide +kernel, by decide +kernel⟩
abbrev s_l_things : Stmt := topS 32
theorem sc_l_things : FnScope ["_law_some"] [] (defScope s_l_things) := ⟨rfl, rfl, rfl, by decide +kernel, rfl, by decide +kernel, by decide +kernel⟩
abbrev s_l_word : Stmt := topS 33
theorem sc_l_word : FnScope ["_law_pick"] ["_law_pick"] (defScope s_l_word) := ⟨rfl, rfl, rfl, by decide +kernel, rfl, by decide +kernel, by decide +kernel⟩
abbrev s_l_made_due : Stmt := topS 34
theorem sc_l_made_due : FnScope ["_law_many", "_law_picks", "_law_words", "_law_pick", "_law_word_here"] ["_law_many", "_law_picks"] (defScope s_l_made_due) := ⟨rfl, rfl, rfl, by decide +kernel, rfl, by decide +kernel, by decide +kernel⟩
abbrev s_l_put_due : Stmt := topS 35
theorem sc_l_put_due : FnScope ["_law_call", "_law_place", "_law_field", "_law_pick"] ["_law_call", "_law_place", "_law_field", "_law_pick"] (defScope s_l_put_due) := ⟨rfl, rfl, rfl, by decide +kernel, rfl, by decide +kernel, by decide +kernel⟩
abbrev s_l_called : Stmt := topS 36
theorem sc_l_called : FnScope ["_law_room", "_law_call", "_law_things_here", "_law_place", "_law_field", "_law_found", "_law_error"] ["_law_room", "_law_call", "_law_things_here", "_law_place", "_law_field"] (defScope s_l_called) := ⟨rfl, rfl, rfl, by decide +kernel, rfl, by decide +kernel, by decide +kernel⟩
abbrev s_l_behind : Stmt := topS 37
theorem sc_l_behind : FnScope ["_law_call", "_law_things_here", "_law_place", "_law_field", "_law_cells", "_law_words", "_law_thing"] ["_law_call", "_law_things_here", "_law_place", "_law_field"] (defScope s_l_behind) := ⟨rfl, rfl, rfl, by decide +kernel, rfl, by decide +kernel, by decide +kernel⟩
abbrev s_l_sizes_right : Stmt := topS 38
theorem sc_l_sizes_right : FnScope ["_law_script", "_law_sizes", "_law_size", "_law_doors"] ["_law_script"] (defScope s_l_sizes_right) := ⟨rfl, rfl, rfl, by decide +kernel, rfl, by decide +kernel, by decide +kernel⟩
abbrev s_l_sound : Stmt := topS 39
theorem sc_l_sound : FnScope ["_law_room", "_law_cells", "_law_used", "_law_places", "_law_made"] ["_law_room", "_law_cells", "_law_used"] (defScope s_l_sound) := ⟨rfl, rfl, rfl, by decide +kernel, rfl, by decide +kernel, by decide +kernel⟩
abbrev s_l_drawn_place : Stmt := topS 40
theorem sc_l_drawn_place : FnScope ["_law_cell"] ["_law_cell"] (defScope s_l_drawn_place) := ⟨rfl, rfl, rfl, by decide +kernel, rfl, by decide +kernel, by decide +kernel⟩
abbrev s_l_drawn_field : Stmt := topS 41
theorem sc_l_drawn_field : FnScope ["_law_cell"] ["_law_cell"] (defScope s_l_drawn_field) := ⟨rfl, rfl, rfl, by decide +kernel, rfl, by decide +kernel, by decide +kernel⟩
abbrev s_law : Stmt := topS 42
theorem sc_law : FnScope ["_law_script", "_law_room", "_law_call", "_law_pick", "_law_place", "_law_field", "_law_many", "_law_at_here", "_law_things_here", "_law_k", "_law_picks", "_law_due", "_law_handed", "_law_found", "_law_told"] ["_law_script"] (defScope s_law) := ⟨rfl, rfl, rfl, by decide +kernel, rfl, by decide +kernel, by decide +kernel⟩
/-- where the defs stand -/
structure Adr where
  f_number_word : Addr
  d_number_word : FuncData
  f_link_word : Addr
  d_link_word : FuncData
  f_head_word : Addr
  d_head_word : FuncData
  f_is_link : Addr
  d_is_link : FuncData
  f_told_by : Addr
  d_told_by : FuncData
  f_fields_of : Addr
  d_fields_of : FuncData
  f_heads : Addr
  d_heads : FuncData
  f_is_whole : Addr
  d_is_whole : FuncData
  f_need_thing : Addr
  d_need_thing : FuncData
  f_thing_of : Addr
  d_thing_of : FuncData
  f_Rinit : Addr
  d_Rinit : FuncData
  f_Rneed_box : Addr
  d_Rneed_box : FuncData
  f_Rword_of : Addr
  d_Rword_of : FuncData
  f_Rmade : Addr
  d_Rmade : FuncData
  f_Rput : Addr
  d_Rput : FuncData
  f_Rtold : Addr
  d_Rtold : FuncData
  f_Rplaces : Addr
  d_Rplaces : FuncData
  f_Rused : Addr
  d_Rused : FuncData
  f_Rcells : Addr
  d_Rcells : FuncData
  f_l_at : Addr
  d_l_at : FuncData
  f_l_is_int : Addr
  d_l_is_int : FuncData
  f_l_words_are : Addr
  d_l_words_are : FuncData
  f_l_class : Addr
  d_l_class : FuncData
  f_l_number : Addr
  d_l_number : FuncData
  f_l_sized : Addr
  d_l_sized : FuncData
  f_l_new : Addr
  d_l_new : FuncData
  f_l_things : Addr
  d_l_things : FuncData
  f_l_word : Addr
  d_l_word : FuncData
  f_l_made_due : Addr
  d_l_made_due : FuncData
  f_l_put_due : Addr
  d_l_put_due : FuncData
  f_l_called : Addr
  d_l_called : FuncData
  f_l_behind : Addr
  d_l_behind : FuncData
  f_l_sizes_right : Addr
  d_l_sizes_right : FuncData
  f_l_sound : Addr
  d_l_sound : FuncData
  f_l_drawn_place : Addr
  d_l_drawn_place : FuncData
  f_l_drawn_field : Addr
  d_l_drawn_field : FuncData
  f_law : Addr
  d_law : FuncData
  c_SlideError : Addr
  c_BadSize : Addr
  c_BadThing : Addr
  c_NoBox : Addr
  c_NoField : Addr
  c_NoRoom : Addr
  c_Room : Addr
/-- the classes that are raised -/
inductive Ref where
  | BadSize
  | BadThing
  | NoBox
  | NoField
  | NoRoom
deriving DecidableEq
def Adr.cl (A : Adr) : Ref → Addr
  | .BadSize => A.c_BadSize
  | .BadThing => A.c_BadThing
  | .NoBox => A.c_NoBox
  | .NoField => A.c_NoField
  | .NoRoom => A.c_NoRoom
/-- an exception of one of them, without attributes -/
def Caught (A : Adr) (cls : Value) (d : Option Addr) : Prop := ∃ r : Ref, cls = .ref (A.cl r) ∧ d = none
/-- what the top has written -/
structure Txt (K : PySem.W.Frag) (mg : Str → Option Value) (A : Adr) : Prop where
  F_number_word : Fun K "number_word" "number_word" s_number_word A.f_number_word A.d_number_word
  b_number_word : Binds K A.d_number_word ["n"] []
  m_number_word : mg "number_word" = some (.ref A.f_number_word)
  F_link_word : Fun K "link_word" "link_word" s_link_word A.f_link_word A.d_link_word
  b_link_word : Binds K A.d_link_word ["place"] []
  m_link_word : mg "link_word" = some (.ref A.f_link_word)
  F_head_word : Fun K "head_word" "head_word" s_head_word A.f_head_word A.d_head_word
  b_head_word : Binds K A.d_head_word ["many", "marked"] []
  m_head_word : mg "head_word" = some (.ref A.f_head_word)
  F_is_link : Fun K "is_link" "is_link" s_is_link A.f_is_link A.d_is_link
  b_is_link : Binds K A.d_is_link ["word"] []
  m_is_link : mg "is_link" = some (.ref A.f_is_link)
  F_told_by : Fun K "told_by" "told_by" s_told_by A.f_told_by A.d_told_by
  b_told_by : Binds K A.d_told_by ["word"] []
  m_told_by : mg "told_by" = some (.ref A.f_told_by)
  F_fields_of : Fun K "fields_of" "fields_of" s_fields_of A.f_fields_of A.d_fields_of
  b_fields_of : Binds K A.d_fields_of ["head"] []
  m_fields_of : mg "fields_of" = some (.ref A.f_fields_of)
  F_heads : Fun K "heads" "heads" s_heads A.f_heads A.d_heads
  b_heads : Binds K A.d_heads ["row", "used"] []
  m_heads : mg "heads" = some (.ref A.f_heads)
  F_is_whole : Fun K "is_whole" "is_whole" s_is_whole A.f_is_whole A.d_is_whole
  b_is_whole : Binds K A.d_is_whole ["value"] []
  m_is_whole : mg "is_whole" = some (.ref A.f_is_whole)
  F_need_thing : Fun K "need_thing" "need_thing" s_need_thing A.f_need_thing A.d_need_thing
  b_need_thing : Binds K A.d_need_thing ["thing"] []
  m_need_thing : mg "need_thing" = some (.ref A.f_need_thing)
  F_thing_of : Fun K "thing_of" "thing_of" s_thing_of A.f_thing_of A.d_thing_of
  b_thing_of : Binds K A.d_thing_of ["word"] []
  m_thing_of : mg "thing_of" = some (.ref A.f_thing_of)
  F_Rinit : Fun K "__init__" "Room.__init__" s_Rinit A.f_Rinit A.d_Rinit
  b_Rinit : Binds K A.d_Rinit ["self", "size", "doors"] []
  F_Rneed_box : Fun K "need_box" "Room.need_box" s_Rneed_box A.f_Rneed_box A.d_Rneed_box
  b_Rneed_box : Binds K A.d_Rneed_box ["self", "place"] []
  me_Rneed_box : Meth K A.c_Room "need_box" A.f_Rneed_box
  F_Rword_of : Fun K "word_of" "Room.word_of" s_Rword_of A.f_Rword_of A.d_Rword_of
  b_Rword_of : Binds K A.d_Rword_of ["self", "thing"] []
  me_Rword_of : Meth K A.c_Room "word_of" A.f_Rword_of
  F_Rmade : Fun K "made" "Room.made" s_Rmade A.f_Rmade A.d_Rmade
  b_Rmade : Binds K A.d_Rmade ["self", "things"] []
  me_Rmade : Meth K A.c_Room "made" A.f_Rmade
  F_Rput : Fun K "put" "Room.put" s_Rput A.f_Rput A.d_Rput
  b_Rput : Binds K A.d_Rput ["self", "place", "field", "thing"] []
  me_Rput : Meth K A.c_Room "put" A.f_Rput
  F_Rtold : Fun K "told" "Room.told" s_Rtold A.f_Rtold A.d_Rtold
  b_Rtold : Binds K A.d_Rtold ["self", "place"] []
  me_Rtold : Meth K A.c_Room "told" A.f_Rtold
  F_Rplaces : Fun K "places" "Room.places" s_Rplaces A.f_Rplaces A.d_Rplaces
  b_Rplaces : Binds K A.d_Rplaces ["self"] []
  me_Rplaces : Meth K A.c_Room "places" A.f_Rplaces
  F_Rused : Fun K "used" "Room.used" s_Rused A.f_Rused A.d_Rused
  b_Rused : Binds K A.d_Rused ["self"] []
  me_Rused : Meth K A.c_Room "used" A.f_Rused
  F_Rcells : Fun K "cells" "Room.cells" s_Rcells A.f_Rcells A.d_Rcells
  b_Rcells : Binds K A.d_Rcells ["self"] []
  me_Rcells : Meth K A.c_Room "cells" A.f_Rcells
  F_l_at : Fun K "_law_at" "_law_at" s_l_at A.f_l_at A.d_l_at
  b_l_at : Binds K A.d_l_at ["_law_script", "_law_place"] []
  m__law_at : mg "_law_at" = some (.ref A.f_l_at)
  F_l_is_int : Fun K "_law_is_int" "_law_is_int" s_l_is_int A.f_l_is_int A.d_l_is_int
  b_l_is_int : Binds K A.d_l_is_int ["_law_value"] []
  m__law_is_int : mg "_law_is_int" = some (.ref A.f_l_is_int)
  F_l_words_are : Fun K "_law_words_are" "_law_words_are" s_l_words_are A.f_l_words_are A.d_l_words_are
  b_l_words_are : Binds K A.d_l_words_are ["_law_found", "_law_due"] []
  m__law_words_are : mg "_law_words_are" = some (.ref A.f_l_words_are)
  F_l_class : Fun K "_law_class" "_law_class" s_l_class A.f_l_class A.d_l_class
  b_l_class : Binds K A.d_l_class ["_law_error", "_law_word_here"] []
  m__law_class : mg "_law_class" = some (.ref A.f_l_class)
  F_l_number : Fun K "_law_number" "_law_number" s_l_number A.f_l_number A.d_l_number
  b_l_number : Binds K A.d_l_number ["_law_value"] []
  m__law_number : mg "_law_number" = some (.ref A.f_l_number)
  F_l_sized : Fun K "_law_sized" "_law_sized" s_l_sized A.f_l_sized A.d_l_sized
  b_l_sized : Binds K A.d_l_sized ["_law_size", "_law_doors"] []
  m__law_sized : mg "_law_sized" = some (.ref A.f_l_sized)
  F_l_new : Fun K "_law_new" "_law_new" s_l_new A.f_l_new A.d_l_new
  b_l_new : Binds K A.d_l_new ["_law_size", "_law_doors"] []
  m__law_new : mg "_law_new" = some (.ref A.f_l_new)
  F_l_things : Fun K "_law_things" "_law_things" s_l_things A.f_l_things A.d_l_things
  b_l_things : Binds K A.d_l_things [] []
  m__law_things : mg "_law_things" = some (.ref A.f_l_things)
  F_l_word : Fun K "_law_word" "_law_word" s_l_word A.f_l_word A.d_l_word
  b_l_word : Binds K A.d_l_word ["_law_pick"] []
  m__law_word : mg "_law_word" = some (.ref A.f_l_word)
  F_l_made_due : Fun K "_law_made_due" "_law_made_due" s_l_made_due A.f_l_made_due A.d_l_made_due
  b_l_made_due : Binds K A.d_l_made_due ["_law_many", "_law_picks"] []
  m__law_made_due : mg "_law_made_due" = some (.ref A.f_l_made_due)
  F_l_put_due : Fun K "_law_put_due" "_law_put_due" s_l_put_due A.f_l_put_due A.d_l_put_due
  b_l_put_due : Binds K A.d_l_put_due ["_law_call", "_law_place", "_law_field", "_law_pick"] []
  m__law_put_due : mg "_law_put_due" = some (.ref A.f_l_put_due)
  F_l_called : Fun K "_law_called" "_law_called" s_l_called A.f_l_called A.d_l_called
  b_l_called : Binds K A.d_l_called ["_law_room", "_law_call", "_law_things_here", "_law_place", "_law_field"] []
  m__law_called : mg "_law_called" = some (.ref A.f_l_called)
  F_l_behind : Fun K "_law_behind" "_law_behind" s_l_behind A.f_l_behind A.d_l_behind
  b_l_behind : Binds K A.d_l_behind ["_law_call", "_law_things_here", "_law_place", "_law_field"] []
  m__law_behind : mg "_law_behind" = some (.ref A.f_l_behind)
  F_l_sizes_right : Fun K "_law_sizes_right" "_law_sizes_right" s_l_sizes_right A.f_l_sizes_right A.d_l_sizes_right
  b_l_sizes_right : Binds K A.d_l_sizes_right ["_law_script"] []
  m__law_sizes_right : mg "_law_sizes_right" = some (.ref A.f_l_sizes_right)
  F_l_sound : Fun K "_law_sound" "_law_sound" s_l_sound A.f_l_sound A.d_l_sound
  b_l_sound : Binds K A.d_l_sound ["_law_room", "_law_cells", "_law_used"] []
  m__law_sound : mg "_law_sound" = some (.ref A.f_l_sound)
  F_l_drawn_place : Fun K "_law_drawn_place" "_law_drawn_place" s_l_drawn_place A.f_l_drawn_place A.d_l_drawn_place
  b_l_drawn_place : Binds K A.d_l_drawn_place ["_law_cell"] []
  m__law_drawn_place : mg "_law_drawn_place" = some (.ref A.f_l_drawn_place)
  F_l_drawn_field : Fun K "_law_drawn_field" "_law_drawn_field" s_l_drawn_field A.f_l_drawn_field A.d_l_drawn_field
  b_l_drawn_field : Binds K A.d_l_drawn_field ["_law_cell"] []
  m__law_drawn_field : mg "_law_drawn_field" = some (.ref A.f_l_drawn_field)
  F_law : Fun K "law" "law" s_law A.f_law A.d_law
  b_law : Binds K A.d_law ["_law_script"] []
  m_law : mg "law" = some (.ref A.f_law)
  z_ValueError : mg "ValueError" = none
  z_abs : mg "abs" = none
  z_bool : mg "bool" = none
  z_int : mg "int" = none
  z_isinstance : mg "isinstance" = none
  z_len : mg "len" = none
  z_list : mg "list" = none
  z_max : mg "max" = none
  z_range : mg "range" = none
  z_repr : mg "repr" = none
  z_str : mg "str" = none
  z_tuple : mg "tuple" = none
  m_MOST_CELLS : ∃ t, mg "MOST_CELLS" = some (.int 400 t)
  m_MOST_DOORS : ∃ t, mg "MOST_DOORS" = some (.int 20 t)
  m_Room : mg "Room" = some (.ref A.c_Room)
  clR : Cls K A.c_Room
  na_row : NoAttr K A.c_Room "row"
  na_filled : NoAttr K A.c_Room "filled"
  mkR : L2.Mk K A.c_Room A.f_Rinit
  m_SlideError : mg "SlideError" = some (.ref A.c_SlideError)
  x_SlideError : PySem.W.excIn K A.c_SlideError [.type "ValueError", .type "Exception", .type "BaseException", .type "object"] "ValueError.__new__" = true
  k_SlideError : PySem.W.keepIn K (.ref A.c_SlideError) = true
  sb_SlideError : PySem.W.subIn K (.ref A.c_SlideError) (.type "BaseException") = some true
  ty_SlideError : PySem.W.typeIn K (.ref A.c_SlideError) = some (.type "type")
  ex_SlideError : PySem.W.exmOne K (.ref A.c_SlideError) (.ref A.c_SlideError) = some true
  m_BadSize : mg "BadSize" = some (.ref A.c_BadSize)
  x_BadSize : PySem.W.excIn K A.c_BadSize [.type "ValueError", .type "Exception", .type "BaseException", .type "object"] "ValueError.__new__" = true
  k_BadSize : PySem.W.keepIn K (.ref A.c_BadSize) = true
  sb_BadSize : PySem.W.subIn K (.ref A.c_BadSize) (.type "BaseException") = some true
  ty_BadSize : PySem.W.typeIn K (.ref A.c_BadSize) = some (.type "type")
  ex_BadSize : PySem.W.exmOne K (.ref A.c_BadSize) (.ref A.c_BadSize) = some true
  m_BadThing : mg "BadThing" = some (.ref A.c_BadThing)
  x_BadThing : PySem.W.excIn K A.c_BadThing [.type "ValueError", .type "Exception", .type "BaseException", .type "object"] "ValueError.__new__" = true
  k_BadThing : PySem.W.keepIn K (.ref A.c_BadThing) = true
  sb_BadThing : PySem.W.subIn K (.ref A.c_BadThing) (.type "BaseException") = some true
  ty_BadThing : PySem.W.typeIn K (.ref A.c_BadThing) = some (.type "type")
  ex_BadThing : PySem.W.exmOne K (.ref A.c_BadThing) (.ref A.c_BadThing) = some true
  m_NoBox : mg "NoBox" = some (.ref A.c_NoBox)
  x_NoBox : PySem.W.excIn K A.c_NoBox [.type "ValueError", .type "Exception", .type "BaseException", .type "object"] "ValueError.__new__" = true
  k_NoBox : PySem.W.keepIn K (.ref A.c_NoBox) = true
  sb_NoBox : PySem.W.subIn K (.ref A.c_NoBox) (.type "BaseException") = some true
  ty_NoBox : PySem.W.typeIn K (.ref A.c_NoBox) = some (.type "type")
  ex_NoBox : PySem.W.exmOne K (.ref A.c_NoBox) (.ref A.c_NoBox) = some true
  m_NoField : mg "NoField" = some (.ref A.c_NoField)
  x_NoField : PySem.W.excIn K A.c_NoField [.type "ValueError", .type "Exception", .type "BaseException", .type "object"] "ValueError.__new__" = true
  k_NoField : PySem.W.keepIn K (.ref A.c_NoField) = true
  sb_NoField : PySem.W.subIn K (.ref A.c_NoField) (.type "BaseException") = some true
  ty_NoField : PySem.W.typeIn K (.ref A.c_NoField) = some (.type "type")
  ex_NoField : PySem.W.exmOne K (.ref A.c_NoField) (.ref A.c_NoField) = some true
  m_NoRoom : mg "NoRoom" = some (.ref A.c_NoRoom)
  x_NoRoom : PySem.W.excIn K A.c_NoRoom [.type "ValueError", .type "Exception", .type "BaseException", .type "object"] "ValueError.__new__" = true
  k_NoRoom : PySem.W.keepIn K (.ref A.c_NoRoom) = true
  sb_NoRoom : PySem.W.subIn K (.ref A.c_NoRoom) (.type "BaseException") = some true
  ty_NoRoom : PySem.W.typeIn K (.ref A.c_NoRoom) = some (.type "type")
  ex_NoRoom : PySem.W.exmOne K (.ref A.c_NoRoom) (.ref A.c_NoRoom) = some true
  ec : ∀ r : Ref, L2.ExcC K (A.cl r)
  ki : ∀ r q : Ref, PySem.W.kitOne K (.ref (A.cl r)) (.ref (A.cl q)) = some (decide (r = q))
  ks : ∀ r : Ref, PySem.W.kitOne K (.ref (A.cl r)) (.ref A.c_SlideError) = some true
  kv : ∀ r : Ref, PySem.W.kitOne K (.ref (A.cl r)) (.type "ValueError") = some true
  xm : ∀ r q : Ref, PySem.W.exmOne K (.ref (A.cl r)) (.ref (A.cl q)) = some (decide (r = q))
local macro_rules | `(tactic| walk_at "rd") => `(tactic| repeat (first | refine ⟨rfl, ?_⟩ | refine ⟨_, rfl, ?_⟩ | refine ⟨IntMulOk.of_left (by decide), ?_⟩ | refine ⟨IntMulOk.of_right (by decide), ?_⟩ | refine ⟨⟨by decide, by decide⟩, ?_⟩ | refine ⟨(by show (0 : Int) < _; decide), ?_⟩ | refine ⟨_, _, rfl, rfl, ?_⟩ | refine ⟨_, _, rfl, ?_⟩))
section
variable {P : Program} {w : World} {K : PySem.W.Frag} {mg : Str → Option Value} {base : Heap} {A : Adr}
theorem same_upd {H : Hp} {p : Addr} {o : HO} (h : H p = none) : Same H (upd H p o) := fun b x e => by
  rw [upd_ne (ne_of_none e h)]
  exact e
/-- a new object may change -/
theorem same_mut {H H' : Hp} {p : Addr} {o : HO} (h : H p = none) (e : Same H H') : Same H (upd H' p o) := fun b x q => by
  rw [upd_ne (ne_of_none q h)]
  exact e b x q
theorem op_mulB {X : Cx} : OpR X (binaryOp .Mult) (rI IntMulOk fun i j => .int (i * j)) := opI fun _ _ _ _ _ _ _ hc q => mul_int q hc
section
variable {X : Cx}
def rAddI : R2 := fun x y H Q => ∃ i j : Int, x = .int i ∧ y = .int j ∧ Q (.int (i + j)) H
def rSubI : R2 := fun x y H Q => ∃ i j : Int, x = .int i ∧ y = .int j ∧ Q (.int (i - j)) H
def rMulI : R2 := fun x y H Q => ∃ i j : Int, x = .int i ∧ y = .int j ∧ IntMulOk i j ∧ Q (.int (i * j)) H
def rDivI : R2 := fun x y H Q => ∃ i j : Int, x = .int i ∧ y = .int j ∧ CDiv i j ∧ Q (.int (i / j)) H
def rModI : R2 := fun x y H Q => ∃ i j : Int, x = .int i ∧ y = .int j ∧ 0 < j ∧ Q (.int (i % j)) H
def rPowI : R2 := fun x y H Q => ∃ i j : Int, x = .int i ∧ y = .int j ∧ CPow i j ∧ Q (.int (i ^ j.toNat)) H
def rLtI : R2 := fun x y H Q => ∃ i j : Int, x = .int i ∧ y = .int j ∧ Q (.bl (decide (i < j))) H
def rLeI : R2 := fun x y H Q => ∃ i j : Int, x = .int i ∧ y = .int j ∧ Q (.bl (decide (i ≤ j))) H
def rGtI : R2 := fun x y H Q => ∃ i j : Int, x = .int i ∧ y = .int j ∧ Q (.bl (decide (j < i))) H
def rGeI : R2 := fun x y H Q => ∃ i j : Int, x = .int i ∧ y = .int j ∧ Q (.bl (decide (j ≤ i))) H
theorem op_addI : OpR X (binaryOp .Add) rAddI := op_add
theorem op_subI : OpR X (binaryOp .Sub) rSubI := op_sub
theorem op_mulI : OpR X (binaryOp .Mult) rMulI := op_mulB
theorem op_divI : OpR X (binaryOp .FloorDiv) rDivI := op_fdiv
theorem op_modI : OpR X (binaryOp .Mod) rModI := op_mod
theorem op_powI : OpR X (binaryOp .Pow) rPowI := op_pow
theorem op_ltI : OpR X (compareOp .Lt) rLtI := op_lt
theorem op_leI : OpR X (compareOp .LtE) rLeI := op_le
theorem op_gtI : OpR X (compareOp .Gt) rGtI := op_gt
theorem op_geI : OpR X (compareOp .GtE) rGeI := op_ge
end
theorem op_isnotB {X : Cx} : OpR X (compareOp .IsNot) (fun x y H Q => ∃ b : Bool, y = .bl b ∧ (∀ a, x ≠ .ref a) ∧ Q (.bl (!decide (x = .bl b))) H) := by
  intro pins s σ H x y v u Q I rx ry h
  obtain ⟨b, rfl, nr, q⟩ := h
  cases (show u = Value.bool b from ry)
  by_cases e : x = .bl b
  · subst e
    cases (show v = Value.bool b from rx)
    exact wpAny_isNot_self rfl ⟨.bl false, H, I, rfl, by simpa using q⟩
  · have nv : v ≠ Value.bool b := fun z => e (RelV.inj rx (by rw [z]; exact rfl))
    refine wpAny_isNot_other ?_ nv ⟨.bl true, H, I, rfl, by simpa [e] using q⟩
    cases x with
    | non => cases rx; rfl
    | bl _ => cases rx; rfl
    | int _ => obtain ⟨t, rfl⟩ := rx; rfl
    | str _ => obtain ⟨t, rfl⟩ := rx; rfl
    | byt _ => obtain ⟨t, rfl⟩ := rx; rfl
    | flt _ => obtain ⟨t, rfl⟩ := rx; rfl
    | ref a => exact absurd rfl (nr a)
    | ty _ => cases rx; rfl
section
variable {X : Cx} {K : PySem.W.Frag}
theorem ix_listK (e : X.K = K) : IxR X (rIxL K) := by subst e; exact ix_list
theorem ix_tupK (e : X.K = K) : IxR X (rIxT K) := by subst e; exact ix_tup
theorem sl_listK (e : X.K = K) : SlR X (rSlL K) := by subst e; exact sl_list
def rLen (K : PySem.W.Frag) : List V → Hp → VK → Prop := fun xs H Q => ∃ p ys, xs = [.ref p] ∧ (SqL K H p ys ∨ SqT K H p ys) ∧ Q (.int ys.length) H
def rListOf (K : PySem.W.Frag) : List V → Hp → VK → Prop := fun xs H Q => ∃ p ys, xs = [.ref p] ∧ (SqL K H p ys ∨ SqT K H p ys) ∧ ∀ l, H l = none → Q (.ref l) (upd H l (.lst ys))
theorem call_lenK (e : X.K = K) : CallR X (.builtin "len") (rLen K) := by subst e; exact call_len_seq
theorem call_list_ofK (e : X.K = K) : CallR X (.type "list") (rListOf K) := by subst e; exact call_list_of
theorem call_isiK (e : X.K = K) : CallR X (.builtin "isinstance") (rIsi K) := by subst e; exact call_isi
theorem cr_sumK (e : X.K = K) (hc : X.calm = true) : CallR X (.builtin "sum") (rSum K) := by subst e; exact cr_sum hc
theorem cr_sortedK (e : X.K = K) : CallR X (.builtin "sorted") (rSortedI K) := by subst e; exact cr_sortedI
theorem op_inK (e : X.K = K) : OpR X (compareOp .In) (rIn K false) := by subst e; exact op_in_seq
theorem op_notInK (e : X.K = K) : OpR X (compareOp .NotIn) (rIn K true) := by subst e; exact op_notIn_seq
theorem op_eqDK (e : X.K = K) (hu : X.A.units + 64 < cLine) : OpR X (compareOp .Eq) (rEqD K) := by subst e; exact op_eqD hu
theorem op_neDK (e : X.K = K) (hu : X.A.units + 64 < cLine) : OpR X (compareOp .NotEq) (rNeD K) := by subst e; exact op_neD hu
theorem pi_listK {tg l : Expr} {tl : TE} (e : X.K = K) (hl : PE X l tl) : PI X tg l (iList K tl) := by subst e; exact pi_list hl
theorem pi_tupK {tg l : Expr} {tl : TE} (e : X.K = K) (hl : PE X l tl) : PI X tg l (iTup K tl) := by subst e; exact pi_tup hl
theorem pe_fldK {o : Expr} {f : Str} {pos : Pos} {ta : TE} (e : X.K = K) (he : PE X o ta) (hb : attributeBase o f X.env (eval o X.env) = eval o X.env) : PE X (.Attribute o f pos) (tFld K ta f) := by subst e; exact pe_fld he hb
end
theorem ifF {c : Bool} {A B : Prop} (hc : c = false) (h : B) : if c = true then A else B := by
  subst hc
  rw [if_neg Bool.false_ne_true]
  exact h
theorem ifT {c : Bool} {A B : Prop} (hc : c = true) (h : A) : if c = true then A else B := by
  subst hc
  rw [if_pos rfl]
  exact h
theorem tyx_list {K : PySem.W.Frag} {H : Hp} {a : Addr} {xs : List V} (h : SqL K H a xs) : TyX K H (.ref a) (.type "list") := by
  rcases h with (h | ⟨o, h⟩) | ⟨o, its, n, h, hc, _⟩
  · exact .base (.lst h)
  · exact .base (.frz h)
  · exact .kList h hc
theorem sz2000 {n : Nat} (h : n ≤ 100000) : n ≤ sizeLine := Nat.le_trans h (by decide)
theorem sz2001 {n : Nat} (h : n ≤ 100000) : n < sizeLine := Nat.lt_of_le_of_lt h (by decide)
theorem at_int {xs : List Int} {i : Nat} {x : Int} (h : xs[i]? = some x) : atI (xs.map V.int) (i : Int) = some (.int x) := atI_nat (by rw [List.getElem?_map, h]; rfl)
theorem bits_iff {x : Int} {n : Nat} : Builtin.Int.intBits x ≤ n ↔ x.natAbs < 2 ^ n := by
  unfold Builtin.Int.intBits
  by_cases h : x = 0
  · subst h
    simp [Nat.two_pow_pos]
  · have h0 : x.natAbs ≠ 0 := by omega
    rw [if_neg (by simpa using h), ← Nat.log2_lt h0]
    exact Iff.rfl
theorem bits_mul {a b : Int} {m n : Nat} (ha : Builtin.Int.intBits a ≤ m) (hb : Builtin.Int.intBits b ≤ n) : Builtin.Int.intBits (a * b) ≤ m + n := by
  rw [bits_iff] at *
  rw [Int.natAbs_mul, Nat.pow_add]
  exact Nat.mul_lt_mul'' ha hb
theorem bits_add {a b : Int} {m n : Nat} (ha : Builtin.Int.intBits a ≤ m) (hb : Builtin.Int.intBits b ≤ n) : Builtin.Int.intBits (a + b) ≤ m + n + 1 := by
  rw [bits_iff] at *
  have h1 : (2 : Nat) ^ m ≤ 2 ^ (m + n) := Nat.pow_le_pow_right (by decide) (by omega)
  have h2 : (2 : Nat) ^ n ≤ 2 ^ (m + n) := Nat.pow_le_pow_right (by decide) (by omega)
  rw [Nat.pow_succ]
  have := Int.natAbs_add_le a b
  omega
theorem bits_div {a d : Int} {m : Nat} (ha : Builtin.Int.intBits a ≤ m) : Builtin.Int.intBits (a / d) ≤ m := by
  rw [bits_iff] at *
  exact Nat.lt_of_le_of_lt (Int.natAbs_ediv_le_natAbs a d) ha
theorem bits_le {a : Int} {m n : Nat} (ha : Builtin.Int.intBits a ≤ m) (h : m ≤ n) : Builtin.Int.intBits a ≤ n := Nat.le_trans ha h
theorem mul_ok {a b : Int} (ha : Builtin.Int.intBits a ≤ 3000000) (hb : Builtin.Int.intBits b ≤ 3000000) : IntMulOk a b := by
  have e : bitsLine = 134217728 := by decide
  unfold IntMulOk
  intro z
  rw [Bool.and_eq_true] at z
  have z3 := of_decide_eq_true z.2
  rw [e] at z3
  omega
theorem mod_nat {n : Nat} (x : Int) (h : 0 < n) : ∃ c : Nat, x % (n : Int) = (c : Int) ∧ c < n := by
  have h1 := Int.emod_nonneg x (show (n : Int) ≠ 0 by omega)
  have h2 := Int.emod_lt_of_pos x (show (0 : Int) < (n : Int) by omega)
  exact ⟨(x % (n : Int)).toNat, by omega, by omega⟩
def natV (c : Nat) : V := .int (c : Int)
theorem flat_nats (cs : List Nat) : (cs.map natV).all flatV = true := by
  rw [List.all_map]
  exact List.all_eq_true.mpr fun _ _ => rfl
theorem in_nats (c : Nat) (cs : List Nat) : inV (.int (c : Int)) (cs.map natV) = decide (c ∈ cs) := by
  unfold inV
  rw [List.any_map]
  by_cases h : c ∈ cs
  · rw [decide_eq_true h]
    exact List.any_eq_true.mpr ⟨c, h, by show ((c : Int) == (c : Int)) = true; simp⟩
  · rw [decide_eq_false h]
    refine List.any_eq_false.mpr fun d hd => ?_
    show ¬ ((d : Int) == (c : Int)) = true
    intro z
    have : (d : Int) = (c : Int) := by simpa using z
    have : d = c := by omega
    exact h (this ▸ hd)
/-! #### number_word -/
def sp_number_word (K : PySem.W.Frag) : Sp := fun vs H Q _ => ∃ n : Int, vs = [.int n] ∧ Q (.int (2 * n)) H
theorem ok_number_word (T : Txt K mg A) : FnOk P w K mg base CX0 1 A.f_number_word A.d_number_word ["n"] (sp_number_word K) := by
  refine T.F_number_word.ok sc_number_word (fun vs H Q E h => by obtain ⟨n, rfl, h⟩ := h; rfl) (fun cdv A' outer s H vs Q E hr h => ⟨_, (pss_one (ps_ret (pe_op op_mulI pe_int (pv 0)))), ?_⟩)
  obtain ⟨n, rfl, h⟩ := h
  walk_at "rd"
  exact h
/-! #### link_word -/
def sp_link_word (K : PySem.W.Frag) : Sp := fun vs H Q _ => ∃ n : Int, vs = [.int n] ∧ Q (.int (2 * n + 1)) H
theorem ok_link_word (T : Txt K mg A) : FnOk P w K mg base CX0 1 A.f_link_word A.d_link_word ["place"] (sp_link_word K) := by
  refine T.F_link_word.ok sc_link_word (fun vs H Q E h => by obtain ⟨n, rfl, h⟩ := h; rfl) (fun cdv A' outer s H vs Q E hr h => ⟨_, (pss_one (ps_ret (pe_op op_addI (pe_op op_mulI pe_int (pv 0)) pe_int))), ?_⟩)
  obtain ⟨n, rfl, h⟩ := h
  walk_at "rd"
  exact h
/-! #### head_word -/
def sp_head_word (K : PySem.W.Frag) : Sp := fun vs H Q _ => ∃ (n : Int) (b : Bool), vs = [.int n, .bl b] ∧ Q (.int (4 * n + if b then 2 else 0)) H
theorem ok_head_word (T : Txt K mg A) : FnOk P w K mg base CX0 1 A.f_head_word A.d_head_word ["many", "marked"] (sp_head_word K) := by
  refine T.F_head_word.ok sc_head_word (fun vs H Q E h => by obtain ⟨n, b, rfl, h⟩ := h; rfl) (fun cdv A' outer s H vs Q E hr h => ⟨_, (pss_cons (ps_if (pt_val (pv 1))
  (pss_one (ps_ret (pe_op op_addI (pe_op op_mulI pe_int (pv 0)) pe_int)))
  pss_nil)
  (pss_one (ps_ret (pe_op op_mulI pe_int (pv 0))))), ?_⟩)
  obtain ⟨n, b, rfl, h⟩ := h
  refine ⟨_, rfl, _, rfl, ?_⟩
  cases b with
  | true =>
    refine iteT ?_
    walk_at "rd"
    exact h
  | false =>
    refine iteF ?_
    rw [if_neg Bool.false_ne_true, Int.add_zero] at h
    walk_at "rd"
    exact h
/-! #### is_link -/
def sp_is_link (K : PySem.W.Frag) : Sp := fun vs H Q _ => ∃ n : Int, vs = [.int n] ∧ Q (.bl (decide (n % 2 = 1))) H
theorem ok_is_link (T : Txt K mg A) : FnOk P w K mg base CX0 1 A.f_is_link A.d_is_link ["word"] (sp_is_link K) := by
  refine T.F_is_link.ok sc_is_link (fun vs H Q E h => by obtain ⟨n, rfl, h⟩ := h; rfl) (fun cdv A' outer s H vs Q E hr h => ⟨_, (pss_one (ps_ret (pe_cmpR op_eq (pe_op op_modI (pv 0) pe_int) pe_int (nomark _)))), ?_⟩)
  obtain ⟨n, rfl, h⟩ := h
  walk_at "rd"
  rw [dec_int, Bool.beq_eq_decide_eq]
  exact h
/-! #### told_by -/
def sp_told_by (K : PySem.W.Frag) : Sp := fun vs H Q _ => ∃ n : Int, vs = [.int n] ∧ Q (.int (n / 2)) H
theorem ok_told_by (T : Txt K mg A) : FnOk P w K mg base CX0 1 A.f_told_by A.d_told_by ["word"] (sp_told_by K) := by
  refine T.F_told_by.ok sc_told_by (fun vs H Q E h => by obtain ⟨n, rfl, h⟩ := h; rfl) (fun cdv A' outer s H vs Q E hr h => ⟨_, (pss_one (ps_ret (pe_op op_divI (pv 0) pe_int))), ?_⟩)
  obtain ⟨n, rfl, h⟩ := h
  walk_at "rd"
  exact h
/-! #### fields_of -/
def sp_fields_of (K : PySem.W.Frag) : Sp := fun vs H Q _ => ∃ n : Int, vs = [.int n] ∧ Q (.int (n / 4)) H
theorem ok_fields_of (T : Txt K mg A) : FnOk P w K mg base CX0 1 A.f_fields_of A.d_fields_of ["head"] (sp_fields_of K) := by
  refine T.F_fields_of.ok sc_fields_of (fun vs H Q E h => by obtain ⟨n, rfl, h⟩ := h; rfl) (fun cdv A' outer s H vs Q E hr h => ⟨_, (pss_one (ps_ret (pe_op op_divI (pv 0) pe_int))), ?_⟩)
  obtain ⟨n, rfl, h⟩ := h
  walk_at "rd"
  exact h
theorem cut_nat (xs : List V) (i k : Nat) : cutV xs (some (i : Int)) (some (k : Int)) = (xs.drop i).take (k - i) := by
  unfold cutV
  rw [HT.sIx_nat, HT.sIx_nat]
  by_cases h : i ≤ xs.length
  · rw [Nat.min_eq_left h]
    by_cases h2 : k ≤ xs.length
    · rw [Nat.min_eq_left h2]
    · rw [Nat.min_eq_right (by omega)]
      rw [List.take_of_length_le (by rw [List.length_drop]; exact Nat.le_refl _), List.take_of_length_le (by rw [List.length_drop]; omega)]
  · rw [Nat.min_eq_right (show xs.length ≤ i by omega), List.drop_of_length_le (Nat.le_refl _), List.drop_of_length_le (show xs.length ≤ i by omega)]
    simp
/-- the script's item at a place, 0 beyond -/
def cell (ns : List Int) (i : Nat) : Int := ns.getD i 0
theorem cell_bits {ns : List Int} (h : ∀ z ∈ ns, Builtin.Int.intBits z ≤ 1048576) (i : Nat) : Builtin.Int.intBits (cell ns i) ≤ 1048576 := by
  unfold cell
  rw [List.getD_eq_getElem?_getD]
  cases e : ns[i]? with
  | none => decide
  | some x => exact h x (List.mem_of_getElem? e)
/-! #### _law_at -/
def sp_l_at (K : PySem.W.Frag) : Sp := fun vs H Q _ => ∃ (a : Addr) (ns : List Int) (i : Nat), vs = [.ref a, .int i] ∧ SqL K H a (ns.map V.int) ∧ ns.length ≤ 1000 ∧ ∀ H', Same H H' → Q (.int (cell ns i)) H'
theorem ok_l_at (T : Txt K mg A) : FnOk P w K mg base CX0 1 A.f_l_at A.d_l_at ["_law_script", "_law_place"] (sp_l_at K) := by
  refine T.F_l_at.ok sc_l_at (fun vs H Q E h => by obtain ⟨a, ns, i, rfl, hS, hl, h⟩ := h; rfl) (fun cdv A' outer s H vs Q E hr h => ⟨_, (pss_one (ps_ret (pe_ix (ix_listK (K := K) rfl) (pe_op op_cat (pe_slice (sl_listK (K := K) rfl) (pv 0) (po_some (pv 1)) (po_some (pe_op op_addI (pv 1) pe_int))) (pe_lst (pa_cons pe_int pa_nil))) pe_int (fun _ _ => rfl)))), ?_⟩)
  obtain ⟨a, ns, i, rfl, hS, hl, h⟩ := h
  refine ⟨_, rfl, _, rfl, _, rfl, _, rfl, _, _, rfl, rfl, _, rfl, a, _, rfl, hS, fun p hp => ?_⟩
  refine ⟨sz2000 (by show 1 ≤ 100000; decide), fun l hl2 => ?_⟩
  have hpl : p ≠ l := fun e => by rw [← e, upd_same] at hl2; cases hl2
  refine ⟨p, l, _, _, rfl, rfl, by rw [upd_ne hpl, upd_same], upd_same, ?_, fun q hq => ?_⟩
  · refine sz2000 ?_
    show (cutV (ns.map V.int) _ _).length + 1 ≤ _
    rw [show ((i : Int) + 1) = ((i + 1 : Nat) : Int) by omega, cut_nat, List.length_take]
    omega
  · refine ⟨q, _, 0, .int (cell ns i), rfl, rfl, .of upd_same, ?_, ?_⟩
    · refine atI_nat (j := 0) ?_
      rw [show ((i : Int) + 1) = ((i + 1 : Nat) : Int) by omega, cut_nat, show i + 1 - i = 1 by omega]
      unfold cell
      rw [List.getD_eq_getElem?_getD]
      by_cases hi : i < ns.length
      · rw [List.getElem?_append_left (by rw [List.length_take, List.length_drop, List.length_map]; omega), List.getElem?_take_of_lt (by decide), List.getElem?_drop, Nat.add_zero, List.getElem?_map, List.getElem?_eq_getElem hi]
        rfl
      · have e : ns[i]? = none := List.getElem?_eq_none (by omega)
        rw [List.drop_of_length_le (by rw [List.length_map]; omega), e]
        rfl
    · exact h _ (((same_upd hp).trans (same_upd hl2)).trans (same_upd hq))
/-! #### _law_is_int -/
def sp_l_is_int (K : PySem.W.Frag) : Sp := fun vs H Q _ => ∃ n : Int, vs = [.int n] ∧ Q (.bl true) H
theorem ok_l_is_int (T : Txt K mg A) : FnOk P w K mg base CX0 1 A.f_l_is_int A.d_l_is_int ["_law_value"] (sp_l_is_int K) := by
  refine T.F_l_is_int.ok sc_l_is_int (fun vs H Q E h => by obtain ⟨n, rfl, h⟩ := h; rfl) (fun cdv A' outer s H vs Q E hr h => ⟨_, (pss_one (ps_ret (pe_and (pe_callB (call_isiK (K := K) rfl) (by rfl) T.z_isinstance (by decide +kernel) (pa_cons (pv 0) (pa_cons (pe_bltn (v := .ty "int") (by rfl) T.z_int (by decide +kernel) rfl) pa_nil))) (pe_and (pe_cmpR op_isnotB (pv 0) pe_bl (nomark _)) (pe_one (pe_cmpR op_isnotB (pv 0) pe_bl (nomark _))))))), ?_⟩)
  obtain ⟨n, rfl, h⟩ := h
  refine ⟨_, rfl, .int n, _, _, _, true, rfl, .ty "int", .base (.int n), kit_ty (by decide +kernel), true, rfl, iteT ?_⟩
  refine ⟨_, rfl, true, rfl, (fun a z => nomatch z), _, rfl, iteT ?_⟩
  exact ⟨_, rfl, false, rfl, (fun a z => nomatch z), h⟩
/-! #### _law_words_are -/
def sp_l_words_are (K : PySem.W.Frag) : Sp := fun vs H Q _ => ∃ (a b : Addr) (xs : List Int), vs = [.ref a, .ref b] ∧ SqL K H a (xs.map V.int) ∧ SqL K H b (xs.map V.int) ∧ xs.length ≤ 2000 ∧ ∀ H', Same H H' → Q (.bl true) H'
theorem ok_l_words_are (T : Txt K mg A) : FnOk P w K mg base CX0 2 A.f_l_words_are A.d_l_words_are ["_law_found", "_law_due"] (sp_l_words_are K) := by
  refine T.F_l_words_are.ok sc_l_words_are (fun vs H Q E h => by obtain ⟨a, b, xs, rfl, ha, hb, hl, h⟩ := h; rfl) (fun cdv A' outer s H vs Q E hr h => ⟨_, (pss_cons (ps_if (PW.pt (pw_or (pt_not (pt_val (pe_callB (call_isiK (K := K) rfl) (by rfl) T.z_isinstance (by decide +kernel) (pa_cons (pv 0) (pa_cons (pe_bltn (v := .ty "list") (by rfl) T.z_list (by decide +kernel) rfl) pa_nil))))) (pw_or1 (pt_cmpR op_ne (pe_callB (call_lenK (K := K) rfl) (by rfl) T.z_len (by decide +kernel) (pa_cons (pv 0) pa_nil)) (pe_callB (call_lenK (K := K) rfl) (by rfl) T.z_len (by decide +kernel) (pa_cons (pv 1) pa_nil)) (nomark _)))))
  (pss_one (ps_ret pe_bl))
  pss_nil)
  (pss_one (ps_ret (pe_cmpR op_eq (pe_callB (call_lenK (K := K) rfl) (by rfl) T.z_len (by decide +kernel) (pa_cons (pe_lc (own := [("_law_k", 2)]) (g := gName 2) rfl sc_l_words_are.nd (pi_range1 rfl T.z_range (pa_cons (pe_callB (call_lenK (K := K) rfl) (by rfl) T.z_len (by decide +kernel) (pa_cons (pv 1) pa_nil)) pa_nil)) (blkOk_by (own := [("_law_k", 2)]) (N := ["_law_found", "_law_due", "_law_k"]) (sc := defScope s_l_words_are) (by decide +kernel)) (fun _ _ _ _ _ => pg_name (i := 2) sc_l_words_are.nd rfl (.inl rfl)) (fun _ _ _ _ _ => (pts_one (PW.pt (pw_or (pt_not (pt_val (pe_call (ok_l_is_int T) (hr.mono (by decide)) (by rfl) T.m__law_is_int T.F_l_is_int.kp T.b_l_is_int .nil pass0 (pa_cons (pe_ix (ix_listK (K := K) rfl) (pv 0) (pv 2) (fun _ _ => rfl)) pa_nil)))) (pw_or1 (pt_cmpR op_ne (pe_ix (ix_listK (K := K) rfl) (pv 0) (pv 2) (fun _ _ => rfl)) (pe_ix (ix_listK (K := K) rfl) (pv 1) (pv 2) (fun _ _ => rfl)) (nomark _))))))) (fun _ _ _ _ _ => (pv 2))) pa_nil)) pe_int (nomark _))))), ?_⟩)
  obtain ⟨a, b, xs, rfl, ha, hb, hl, h⟩ := h
  refine ⟨_, rfl, .ref a, _, _, _, true, rfl, .ty "list", tyx_list ha, kit_ty (by decide +kernel), true, rfl, ?_⟩
  refine iteF ⟨_, rfl, a, _, rfl, .inl ha, _, rfl, b, _, rfl, .inl hb, rfl, false, ?_, iteF ?_⟩
  · rw [decide_eq_true rfl]
    rfl
  refine ⟨_, rfl, b, _, rfl, .inl hb, _, rfl, by omega, by rw [List.length_map]; omega, fun D hD => lc_range (lo := 0) (n := _) (fun i H' => Same H H' ∧ H' D = some (.lst [])) ⟨same_upd hD, upd_same⟩ (fun i H' hi p => ?_) (fun H' p => ?_)⟩
  · have hi' : i < xs.length := by
      rw [List.length_map] at hi
      omega
    have g : xs[i]? = some xs[i] := List.getElem?_eq_getElem hi'
    have e0 : (0 : Int) + (i : Int) = (i : Int) := Int.zero_add _
    rw [e0]
    refine ⟨rfl, ?_⟩
    refine ⟨_, rfl, _, rfl, a, _, _, _, rfl, rfl, p.1.seq ha, at_int g, _, rfl, true, rfl, iteF ?_⟩
    refine ⟨_, rfl, _, rfl, a, _, _, _, rfl, rfl, p.1.seq ha, at_int g, _, rfl, _, rfl, b, _, _, _, rfl, rfl, p.1.seq hb, at_int g, rfl, false, ?_, iteF p⟩
    rw [decide_eq_true rfl]
    rfl
  · refine ⟨D, _, rfl, .inl (.of p.2), rfl, ?_⟩
    exact h _ p.1
/-- a method's call within a try -/
def tMethT (C : Addr) (m : Str) (q : Sp) (E : L2.St → XK) (o : TE) (g : TA) : TE := fun σ H Q => o σ H fun x H1 =>
  ∃ a dx fs, x = .ref a ∧ H1 a = some (.ins C dx fs) ∧
    fs.lookup m = none ∧ g σ H1 fun vs H2 => q (x :: vs) H2 Q (E σ)
theorem pe_methT {X : Cx} {Y : CXT} {n : Nat} {f C : Addr} {d : FuncData} {ns : List Str} {q : Sp} {E : L2.St → XK} {m : Str} {p1 p2 : Pos} {e o : Expr} {es : List Expr} {u : TE} {g : TA} {pl : Sem Bool}
    (ho : PE X o u) (c : Cls X.K C) (hm : Meth X.K C m f)
    (F : FnOk X.prog X.w X.K X.mg X.base Y n f d ns q) (hr : Room n X.A)
    (hb : Binds X.K d ns []) (hx : ∀ σ, PassesAt Y X σ (E σ)) (ha : PA X (e :: es) g)
    (h1 : starEach (e :: es) X.env = (false, eval e X.env) :: starEach es X.env := by rfl)
    (h2 : (backTo p2 (starEach es X.env)).any (·.1) = false := by rfl)
    (h3 : eval (.Call (.Attribute o m p1) (e :: es) [] p2) X.env = (do
      let v ← eval o X.env
      standAt p1.atName
      let (z, y) ← holding [v] (getMethod v m pl)
      callWith p2 z y (backTo p2 (starEach (e :: es) X.env))
        (backToKw p2 (keywordEach [] X.env))) := by rfl) :
    PE X (.Call (.Attribute o m p1) (e :: es) [] p2) (tMethT C m q E u g) := by
  constructor
  intro pins s σ H Q I h
  refine PySem.W.methodCall_KW (pl := pl) (thn (ho.run pins s σ H _ I h) fun y s1 z => ?_) h3
  obtain ⟨x, H1, I1, rx, a, dx, fs, ex, ea, l, k⟩ := z
  subst ex
  have e1 : y = Value.ref a := rx
  subst e1
  refine getmeth_ok I1 ea c hm l ?_
  refine PySem.W.callWith_K (first := [.ref a]) (h₀ := X.base) I.ok.mod.kin hm.kp (thn (ha.run p2 pins s1 σ H1 _ I1 k) fun us s2 z => ?_) h1 h2
  obtain ⟨vs, H2, I2, r, k2⟩ := z
  exact ⟨I2.kIn, run_fnS (us := .ref a :: us)
    (vs := .ref a :: vs) F hr hb (hx σ) I2 (.cons rfl r) k2⟩
/-- an except clause that names the class itself -/
theorem exm_own {K : PySem.W.Frag} {S : Addr}
    (a : PySem.W.subIn K (.ref S) (.type "BaseException") = some true)
    (b : PySem.W.isClsIn K S = true)
    (c : PySem.W.typeIn K (.ref S) = some (.type "type"))
    (d : PySem.W.subIn K (.ref S) (.ref S) = some true) :
    PySem.W.exmOne K (.ref S) (.ref S) = some true := by
  have b' : (PySem.W.clsIn K S).isSome = true := b
  unfold PySem.W.exmOne
  unfold PySem.W.kitCls
  simp [a, b', c, d]

/-! a comprehension out of which an exception may go -/
section
variable {M : Model} {G : Around} {E : Value → Shared → Prop} {s : Shared} {env : Env} {outer : List Env} {B : Heap} {a L L' : Addr} {Z : Obj → Prop}
/-- an exception that another frame has noted is noted by this one -/
theorem note_held {Q : Unit → Shared → Prop} (hZ : HandSPX.Steady Z) (hfr : G.frames = some (env :: outer)) (hf : env.frame = some L) (x : HandSPX.HeldZ B (env :: outer) a Z L' s.heap)
    (hQ : ∀ h', HandSPX.HeldZ B (env :: outer) a Z L h' → s.heap.UpToSlots h' → Q () { s with heap := h' }) : wpAny M G (noteFrame (.ref a) env) Q E s := by
  by_cases q : L' = L
  · rw [q] at x
    exact HandSPX.againZ hf x.2.2.2 (hQ _ x (Heap.UpToSlots.refl _))
  · obtain ⟨kb, en, fr, oe, vs, T, oT, ts, he, hz, hd, h1, hnT, nTa, hT, hdT, h3⟩ := x
    have n3 : ¬ (rawInt L' == rawInt L) = true := fun z => q (Int.ofNat.inj (by simpa [rawInt] using z))
    have sz3 := (Array.getElem?_eq_some_iff.mp h3).1
    have oth : ∀ b, b ≠ T → (s.heap.update T (Obj.mapFields (·.setIfInBounds 3 Value.none))).get? b = s.heap.get? b := fun b hb => Heap.get?_update_other _ _ hb.symm
    have nT : ∀ b o, s.heap.get? b = some o → (∀ ws, o.data ≠ .fields ws) → b ≠ T := fun b o hb hn z => by
      rw [z, hT] at hb
      cases hb
      exact hn ts hdT
    unfold noteFrame
    simp only [hf]
    refine wpAny_bind (wpAny_field he hd h1 ?_)
    rw [if_pos (by simp)]
    refine wpAny_bind (wpAny_field hT hdT h3 ?_)
    rw [if_neg n3]
    refine wpAny_bind (wpAny_setField hT hdT sz3 ?_)
    refine HandSPX.wpAny_entryZ hZ hfr (fr.of_keeps fun b o hb hn => ⟨o, (oth b (nT b o hb hn)).trans hb, rfl⟩) hf ((oth a nTa.symm).trans he) (fun b o hb => (oth b fun z => by rw [z, hnT] at hb; cases hb).trans (kb b o hb)) en hd (Array.getElem?_eq_some_iff.mp h1).1 hz fun h' hN => ?_
    obtain ⟨x1, x2, x3, x4⟩ := hN
    exact hQ h' ⟨x1, en, x2, x3⟩ fun b o hb hn => x4 b o ((oth b (nT b o hb hn)).trans hb) hn
/-- in the air, then noted by this frame -/
theorem note_sky {Q : Unit → Shared → Prop} (hZ : HandSPX.Steady Z) (hfr : G.frames = some (env :: outer)) (hf : env.frame = some L) (x : L2.Sky B (env :: outer) a Z L' s.heap)
    (hQ : ∀ h', HandSPX.HeldZ B (env :: outer) a Z L h' → s.heap.UpToSlots h' → Q () { s with heap := h' }) : wpAny M G (noteFrame (.ref a) env) Q E s := by
  rcases x with ⟨hB, hn, hl, oe, vs, he, hz, hd, h1⟩ | fl | hh
  · exact HandSPX.look_newZ hZ hfr hl hf he hB hn hd h1 hz hQ
  · exact HandSPX.looks_onZ hZ hfr hf fl hQ
  · exact note_held hZ hfr hf hh hQ
end
section
variable {X : Cx} {pins pins' : List (Addr × Obj)} {σ : L2.St} {H : Hp} {s : Shared} {E : XK}
/-- another wish for exceptions -/
abbrev Xw (X : Cx) (xe : Value → Shared → Prop) : Cx := { X with xe := xe }
theorem ok_wish {xe : Value → Shared → Prop} (k : X.Ok) : (Xw X xe).Ok := k.toTry X.pn xe
theorem inv_wish {xe : Value → Shared → Prop} (I : Inv X pins σ H s) : Inv (Xw X xe) pins σ H s :=
  ⟨ok_wish I.ok, I.os, I.bare, I.base, I.loc, I.cell, I.free, I.freeC, I.pin, I.hok, I.len⟩
theorem inv_unwish {xe : Value → Shared → Prop} (k : X.Ok) (I : Inv (Xw X xe) pins σ H s) : Inv X pins σ H s :=
  ⟨k, I.os, I.bare, I.base, I.loc, I.cell, I.free, I.freeC, I.pin, I.hok, I.len⟩
/-- what the block lets out, the def may let out -/
theorem blk_takes {H3 : Hp} {s3 : Shared} {scope : Scope} {ce : Env} {fp : List Addr} (I3 : Inv X pins σ H3 s3) (hs : X.stack = X.env :: X.outer) (hf : X.env.frame = some X.env.locals) (hcf : ce.frame = X.env.frame) (cL : ce.locals = s3.heap.objs.size)
    (f3 : ∀ b ∈ fp, FpOk X pins H3 b) (tk : L2.Takes X (fun cls d _ H => E cls d H)) :
    L2.Takes (Xw (X.blk s3 H3 scope ce fp) (notedBy (model X.prog X.w) X.A ce (CompFails (model X.prog X.w) X.A X.xe ce))) (fun cls d _ H => E cls d H) := by
  rintro u s' ⟨a, B, sI, pins', σ', H', cls, d, rfl, J, nb, up, sky, na, os, ag, w⟩
  have hfr : X.A.frames = some (X.env :: X.outer) := by rw [I3.ok.frames, hs]
  have sky2 : L2.Sky B (X.env :: X.outer) a (L2.Zc cls d) ce.locals s'.heap := by rw [← hs]; exact sky
  show wpAny _ _ (noteFrame (.ref a) ce) _ _ _
  rw [noteFrame_env _ hcf]
  refine note_sky L2.Zc.steady hfr hf sky2 fun h1 hh1 up1 => ?_
  obtain ⟨m, hn, _⟩ := J.loc
  have hn1 : h1.Ns ce.locals m := (hn.upToSlots up).upToSlots up1
  refine ⟨m, hn1, fun h2 m2 hn2 sb2 => ?_⟩
  -- the block C is hidden
  have jC : H' ce.locals = none := J.free
  have lt3 : ∀ b o, s3.heap.get? b = some o → b ∉ [ce.locals] := fun b o e z => by
    have := Heap.lt_size e
    rw [List.mem_singleton.mp z, cL] at this
    exact Nat.lt_irrefl _ this
  have J2 : Inv X pins σ H' { sI with heap := PySem.W.hideAll sI.heap [ce.locals] } := by
    have hb := J.base
    refine I3.call' (ch := fp) J.os ⟨fun b o e n h1 h2 => PySem.W.hideAll_get _ (hb.keep b o e n h1 h2) (lt3 b o e), fun b o e n h1 h2 => ?_, fun b o e n h2 => hb.free b o e n h2, fun b o e h2 => ?_, hb.tups, hb.frzs, hb.tbls⟩ ?_ J.bare fun b hb => ?_
    · obtain ⟨sl, z⟩ := hb.slot b o e n h1 h2
      exact ⟨sl, PySem.W.hideAll_get _ z (lt3 b o e)⟩
    · obtain ⟨o', z⟩ := hb.there b o e h2
      exact ⟨o', PySem.W.hideAll_get _ z (lt3 b o e)⟩
    · refine fun b o q => (J.hok b o q).stay (fun c u hc r => PySem.W.hideAll_get _ r fun z => ?_) (fun _ r => r) fun _ _ r => r
      have zc := List.mem_singleton.mp z
      rcases hc with hc | hc
      · rw [← hc, zc, jC] at q
        cases q
      · rw [zc, jC] at hc
        cases hc
    · have f := f3 b hb
      exact ⟨f.2.2.2.1, f.2.1, f.2.2.2.2.1, f.2.2.2.2.2⟩
  obtain ⟨kb, en, fr, oe, vs, T, oT, ts, he, hz, hd, ht1, hnT, nTa, hT, hdT, ht3⟩ := hh1
  obtain ⟨oC, es, ep, eC, dC, _⟩ := id hn1
  have nC : ∀ b o ws, h1.get? b = some o → o.data = .fields ws → b ≠ ce.locals := fun b o ws e de z => by
    rw [z, eC] at e
    cases e
    rw [dC] at de
    cases de
  have un : ∀ b o, (PySem.W.hideAll B [ce.locals]).get? b = some o → b ≠ ce.locals ∧ B.get? b = some o := fun b o e => by
    refine ⟨fun z => ?_, PySem.W.of_hideAll _ e⟩
    rw [z, PySem.W.hideAll_none _ (List.mem_singleton.mpr rfl)] at e
    cases e
  have none_of : ∀ b, B.get? b = none → (PySem.W.hideAll B [ce.locals]).get? b = none := fun b e => by
    cases q : (PySem.W.hideAll B [ce.locals]).get? b with
    | none => rfl
    | some o => exact absurd (e.symm.trans (un b o q).2) (by simp)
  have he2 := (sb2.2 a (nC a oe vs he hd)).trans he
  have hT2 := (sb2.2 T (nC T oT ts hT hdT)).trans hT
  have hh2 : HandSPX.HeldZ (PySem.W.hideAll B [ce.locals]) (X.env :: X.outer) a (L2.Zc cls d) X.env.locals h2 := by
    refine ⟨fun b o e => (sb2.2 b (un b o e).1).trans (kb b o (un b o e).2), none_of a en, L2.funFrames_none (Heap.FunFrames.sameBut sb2 hn2 fr) fun b hb => none_of b (fr.mem hb).1, oe, vs, T, oT, ts, he2, hz, hd, ht1, none_of T hnT, nTa, hT2, hdT, ht3⟩
  have fin : wpAny (model X.prog X.w) X.A (setFlight (.ref a) ce.frame) (fun _ s4 => wpAny (model X.prog X.w) X.A (throw (.ref a) : Sem Value) (fun _ _ => False) X.xe s4) X.xe { s' with heap := h2 } := by
    rw [hcf, hf]
    refine HandSPX.setFlight_onZ hh2 fun h3 hh3 up3 => wpAny_throw (tk _ _ ?_)
    refine ⟨a, PySem.W.hideAll B [ce.locals], _, pins, σ, H', cls, d, rfl, J2, fun b o e hb => ?_, fun b o e hnf => ?_, .inr (.inr (by rw [hs]; exact hh3)), na, os, ag, w⟩
    · have nz : b ∉ [ce.locals] := fun z => by
        rw [PySem.W.hideAll_none _ z] at e
        cases e
      exact PySem.W.hideAll_get _ (nb b o (PySem.W.of_hideAll _ e) hb) nz
    · have nz : b ≠ ce.locals := fun z => by
        rw [z, PySem.W.hideAll_none _ (List.mem_singleton.mpr rfl)] at e
        cases e
      obtain ⟨s1, q1⟩ := up b o (PySem.W.of_hideAll _ e) hnf
      obtain ⟨s2, q2⟩ := up1 b _ q1 hnf
      obtain ⟨s5, q5⟩ := up3 b _ ((sb2.2 b nz).trans q2) hnf
      exact ⟨s5, q5⟩
  show wpAny _ _ (PySem.passOn _ _ _) _ _ _
  unfold PySem.passOn
  refine wpAny_bind (wpAny_field he2 hd ht1 ?_)
  rw [if_neg (by simp)]
  first
    | exact wpAny_bind fin
    | exact wpAny_bind (wpAny_pure (wpAny_bind fin))
end
section
variable {X : Cx} {pins : List (Addr × Obj)} {σ : L2.St} {H : Hp} {s : Shared} {E : XK} {Q : VK} {elt tg iter : Expr} {ifs : List Expr} {scope : Scope} {own : List (Str × Nat)} {pos : Pos} {wi : TI} {g : TG} {tt : TT} {te : TE}
/-- [elt for tg in iter if ..] whose element may raise -/
theorem lcx_core (hc : X.calm = true) (hN : X.N.Nodup) (hst : X.stack = X.env :: X.outer) (hf : X.env.frame = some X.env.locals) (tk : L2.Takes X (fun cls d _ H => E cls d H)) (I : Inv X pins σ H s) (hi : PI X tg iter wi) (ok : BlkOk X.N X.env.scope scope own)
    (hg : ∀ s H C cl fp, PG (X.blk s H scope (compEnvC scope cl C X.env) fp) tg g) (ht : ∀ s H C cl fp, PTs (X.blk s H scope (compEnvC scope cl C X.env) fp) ifs tt)
    (he : ∀ s H C cl fp xe, L2.Takes (Xw (X.blk s H scope (compEnvC scope cl C X.env) fp) xe) (fun cls d _ H => E cls d H) → PE (Xw (X.blk s H scope (compEnvC scope cl C X.env) fp) xe) elt te)
    (hs : ∀ x, foldedSetIterable iter X.env x = pure x) (h : tLc wi g tt te (own.map (·.2)) σ H Q) :
    wpAny (model X.prog X.w) X.A (eval (.ListComp elt [⟨tg, iter, ifs, 0⟩] scope pos) X.env) (EP X pins σ Q) X.xe s := by
  have free : ∀ y ∈ scope.names, y.2 = .free → ∃ c, X.env.cells.lookup y.1 = some c := fun y hy e => I.ok.has _ (ok.free y hy e)
  rw [eval_ListComp]
  refine comprehension_at (use := none) rfl hs (closure_ok free) ok.kind (fun y hy e => (ok.uniq y hy).trans (congrArg some e)) (thn (hi.run pins s σ H _ I h) fun xv s1 hx => thn hx fun itv s2 h2 => ?_)
  obtain ⟨it, fp, tn, J, H2, rfl, I2, T, t2, f2, q⟩ := h2
  refine wpAny_newObj_type (newEnv_comp ?_) (Nat.zero_le _)
  obtain ⟨D, hD⟩ : ∃ D, D = s2.heap.objs.size := ⟨_, rfl⟩
  obtain ⟨W, ⟨m0, w0⟩, turn⟩ := q D (I2.hok.fresh (Nat.le_of_eq hD.symm))
  -- the new list
  obtain ⟨s3, e3⟩ : ∃ s3 : Shared, s3 = { s2 with heap := s2.heap.push { cls := .type "list", data := .seq ([] : List Value).toArray } } := ⟨_, rfl⟩
  have old3 : ∀ b o, s2.heap.get? b = some o → s3.heap.get? b = some o := fun b o e => by
    rw [e3]
    exact Heap.get?_push_of_some _ e
  have I3 : Inv X pins σ (upd H2 D (.lst [])) s3 := by
    rw [e3]
    refine I2.laid (t' := s2.toks) (fun b o e => Heap.get?_push_of_some _ e) (Nat.le_of_eq hD.symm) ⟨Nat.zero_le _, [], 0, .nil, ?_⟩
    rw [hD]
    exact Heap.get?_push_size _ rfl
  have lt2 : ∀ b ∈ fp, b < s2.heap.objs.size := fun b hb => Heap.lt_size (T.obj _ _ t2 b hb).choose_spec.1
  have f3 : ∀ b ∈ fp, FpOk X pins (upd H2 D (.lst [])) b ∧ b < s3.heap.objs.size := fun b hb => by
    have l := lt2 b hb
    refine ⟨⟨?_, (f2 b hb).2⟩, ?_⟩
    · rw [upd_ne (by rw [hD]; exact Nat.ne_of_lt l)]
      exact (f2 b hb).1
    · rw [e3, Heap.size_push]
      exact Nat.lt_succ_of_lt l
  have t3 : tn 0 s3.heap := T.keep _ _ _ t2 fun b _ o e => old3 b o e
  have I4 := block_start I3 ok hN f3
  have e34 : ({ s2 with heap := s2.heap.push { cls := .type "list", data := .seq ([] : List Value).toArray } } : Shared) = s3 := e3.symm
  rw [hD.symm, e34]
  obtain ⟨cl, hcl⟩ : ∃ cl, cl = cellsFrom (s3.heap.objs.size + 1) scope.names (cloFrom X.env.cells scope.names []) := ⟨_, rfl⟩
  rw [← hcl] at I4 ⊢
  obtain ⟨ce, hce⟩ : ∃ ce, ce = compEnvC scope cl s3.heap.objs.size X.env := ⟨_, rfl⟩
  show codeAny _ _ (.compStart _ 0 (.ref it) (.ref D) (compEnvC scope cl s3.heap.objs.size X.env)) (compEnds (model X.prog X.w) X.A X.xe none (EP X pins σ Q) (.ref D) (compEnvC scope cl s3.heap.objs.size X.env)) { s3 with heap := pushCells (s3.heap.push { cls := .type "dict", data := .dict #[] }) scope.names }
  have pg := hg s3 (upd H2 D (.lst [])) s3.heap.objs.size cl fp
  have pt := ht s3 (upd H2 D (.lst [])) s3.heap.objs.size cl fp
  have pe := he s3 (upd H2 D (.lst [])) s3.heap.objs.size cl fp
  rw [← hce] at I4 pg pt pe ⊢
  have cL : ce.locals = s3.heap.objs.size := by rw [hce]; rfl
  have cF : ce.frame = X.env.frame := by rw [hce]; rfl
  have hx := blk_takes (scope := scope) I3 hst hf cF cL (fun b hb => (f3 b hb).1) tk
  have pe2 := pe _ hx
  obtain ⟨H3, eH3⟩ : ∃ H3, H3 = upd H2 D (.lst []) := ⟨_, rfl⟩
  rw [← eH3] at I3 I4 pg pt pe2 w0 f3
  obtain ⟨s4, e4⟩ : ∃ s4 : Shared, s4 = { s3 with heap := pushCells (s3.heap.push { cls := .type "dict", data := .dict #[] }) scope.names } := ⟨_, rfl⟩
  have t4 : tn 0 s4.heap := T.keep _ _ _ t3 fun b _ o e => by
    rw [e4]
    exact pushCells_keeps _ _ _ _ (Heap.get?_push_of_some _ e)
  rw [← e4] at I4 ⊢
  have fpk : ∀ {σ' : L2.St} {H' : Hp} {s' : Shared}, Inv (X.blk s3 H3 scope ce fp) [] σ' H' s' → (∀ b ∈ fp, H' b = none) → ∀ b ∈ fp, FpOk (X.blk s3 H3 scope ce fp) [] H' b := fun K hn b hb =>
    ⟨hn b hb, (K.ok.exf b hb).1, K.ok.exfs b hb, .inl hb, fun x c e => (K.ok.exf b hb).2 x c e, fun p hp => (nomatch hp)⟩
  have loop : codeAny (model X.prog X.w) X.A (.compLoop (.ListComp elt [⟨tg, iter, ifs, 0⟩] scope pos) 0 (.ref it) (.ref D) ce) (compEnds (model X.prog X.w) X.A X.xe none (EP X pins σ Q) (.ref D) ce) s4 := by
    refine compLoop_any (fun n s' => ∃ i H', Inv (X.blk s3 H3 scope ce fp) [] (wipe σ (own.map (·.2))) H' s' ∧ tn i s'.heap ∧ (∀ b ∈ fp, H' b = none) ∧ W i n H') ?_ m0 ⟨0, H3, I4, t4, fun b hb => (f3 b hb).1.1, w0⟩
    rintro n s5 ⟨i, H5, I5, t5, n5, w5⟩
    rcases turn i n H5 w5 with ⟨stop, qq⟩ | ⟨go, Nx, hNx, step⟩
    · refine thnF (T.done (X.blk s3 H3 scope ce fp) rfl rfl rfl hc i [] s5 _ H5 (fun _ _ => False) I5 (fpk I5 n5) t5 stop) fun r s6 ⟨hr, I6⟩ => ?_
      subst hr
      have I7 : Inv X pins σ H5 s6 := I3.call' (ch := fp) I6.os I6.base I6.hok I6.bare fun b hb => ⟨(f3 b hb).1.2.2.2.1, (f3 b hb).1.2.1, (f3 b hb).1.2.2.2.2⟩
      obtain ⟨m, hn, _⟩ := I6.loc
      refine ⟨m, hn, fun h'' sb => ?_⟩
      have nC : H5 ce.locals = none := I6.free
      have fk : FpOk X pins H5 ce.locals := by
        rw [cL] at nC ⊢
        exact I3.fpOk (Nat.le_refl _) nC
      obtain ⟨f0, f1, _, k3, k4, k5⟩ := fk
      exact ⟨.ref D, H5, I7.turned (t' := s6.toks) (fun b o hb e => (sb.2 b hb).trans e) f0 f1 k3 k4 k5, rfl, qq⟩
    · refine thnF (T.item (X.blk s3 H3 scope ce fp) rfl rfl rfl hc i [] s5 _ H5 (fun _ _ => False) I5 (fpk I5 n5) t5 go) fun r s6 ⟨u, hr, h6⟩ => ?_
      subst hr
      refine thnF h6 fun _ s7 ⟨x, H7, I7, r7, y7, t7, n7⟩ => ?_
      refine thnF (pg.run _ s7 _ H7 x u _ (I7.pinned (fpk I7 n7) (T.obj _ _ t7)) r7 (step x H7 y7)) fun _ s8 ⟨σ8, H8, I8, hw8, q8⟩ => ?_
      refine thnF (pt.run _ s8 σ8 H8 _ I8 q8) fun b s9 ⟨H9, I9, q9⟩ => ?_
      have fin : ∀ {s' : Shared} {H' : Hp}, Inv (X.blk s3 H3 scope ce fp) ([] ++ pinsAt fp s7.heap) σ8 H' s' → Nx H' → ∃ m, m < n ∧ ∃ i H', Inv (X.blk s3 H3 scope ce fp) [] (wipe σ (own.map (·.2))) H' s' ∧ tn i s'.heap ∧ (∀ b ∈ fp, H' b = none) ∧ W i m H' := fun {s' H'} K nx => by
        obtain ⟨m', hm, w'⟩ := hNx H' nx
        have pk : ∀ b ∈ fp, ∀ o, s7.heap.get? b = some o → s'.heap.get? b = some o ∧ H' b = none := fun b hb o e => by
          have z := K.pin (b, o) (List.mem_append_right _ (List.mem_append_right _ (mem_pinsAt hb e)))
          exact ⟨z.1, z.2.1⟩
        refine ⟨m', hm, i + 1, H', (K.unpinned (pins := [])).weak (by rw [← hw8, wipe_length]) (fun j v e => ?_), T.keep _ _ _ t7 fun b hb o e => (pk b hb o e).1, fun b hb => ?_, w'⟩
        · rw [← hw8] at e
          exact (wipe_some e).1
        · obtain ⟨o, e, _⟩ := T.obj _ _ t7 b hb
          exact (pk b hb o e).2
      cases b with
      | false => exact fin I9 q9
      | true =>
        refine wpAny_mono (pe2.run _ s9 σ8 H9 _ (inv_wish I9) q9) (fun z s10 hz => ?_) fun _ _ z => z
        obtain ⟨yv, H10, I10, r10, acc, hD10, hz10, nx⟩ := hz
        exact app_ok (X := X.blk s3 H3 scope ce fp) (inv_unwish I9.ok I10) hD10 hz10 r10 fun s11 I11 => fin I11 nx
  exact codeAny_compStart_list loop (T.self X.A 0 _ _ _ t4 loop)
/-- as a value -/
theorem pe_lcX (hc : X.calm = true) (hN : X.N.Nodup) (hst : X.stack = X.env :: X.outer) (hf : X.env.frame = some X.env.locals) (tk : L2.Takes X (fun cls d _ H => E cls d H)) (hi : PI X tg iter wi) (ok : BlkOk X.N X.env.scope scope own)
    (hg : ∀ s H C cl fp, PG (X.blk s H scope (compEnvC scope cl C X.env) fp) tg g) (ht : ∀ s H C cl fp, PTs (X.blk s H scope (compEnvC scope cl C X.env) fp) ifs tt)
    (he : ∀ s H C cl fp xe, L2.Takes (Xw (X.blk s H scope (compEnvC scope cl C X.env) fp) xe) (fun cls d _ H => E cls d H) → PE (Xw (X.blk s H scope (compEnvC scope cl C X.env) fp) xe) elt te)
    (hs : ∀ x, foldedSetIterable iter X.env x = pure x := by intro _; rfl) : PE X (.ListComp elt [⟨tg, iter, ifs, 0⟩] scope pos) (tLc wi g tt te (own.map (·.2))) :=
  ⟨fun _ _ _ _ _ I h => lcx_core hc hN hst hf tk I hi ok hg ht he hs h⟩
end

/-! ### a def, called: its body from its start -/
section
variable {CX : CXT} {P : Program} {w : World} {K : PySem.W.Frag} {mg : Str → Option Value} {base : Heap} {k : Nat} {f : Addr} {fd : FuncData} {N ps : List Str} {sp : Sp} {A : Around} {outer : List Env} {s : Shared} {H : Hp} {E : XK} {Q : VK}
/-- the context of a def's body, with objects that are pinned -/
abbrev cxL (CX : CXT) (P : Program) (w : World) (K : PySem.W.Frag) (mg : Str → Option Value) (base : Heap) (N : List Str) (qual : Str) (scope : Scope) (f : Addr) (cd : Value) (A : Around) (outer : List Env) (s : Shared) (H : Hp) (E : XK) (c : Bool) (l : List (Addr × Obj)) : Cx :=
  { cxOf CX P w K mg base N qual scope f cd A outer s H E with calm := c, pn := l }
theorem call_run {name qual : Str} {params : Arguments} {body : List Stmt} {scope : Scope} {dV kV doc pm cdv ct oc : Value} {an od : Option Addr} {osl : Array (Option Value)} {args : Args} {us : List Value} {vs : List V} {c : Bool} {l : List (Addr × Obj)} {t : TS}
    (lk : K.lookup f = some ⟨oc, od, .func (PySem.W.fnOf name qual params body scope dV kV doc pm an cdv ct), osl⟩) (hcd : PySem.W.codeIn K cdv qual = true) (S : FnScope N ps scope) (dp : A.depth < recursionLimit) (e0 : Env0 P w K mg base A outer s H)
    (hb : BindsTo s (PySem.W.fnOf name qual params body scope dV kV doc pm an cdv ct) args (ps.zip us))
    (hst : ∀ s1, InCallC s s.heap.objs.size (bindL (envOfC qual scope s.heap.objs.size f cdv).kindOf (ps.zip us) fun _ => none) (cellsFrom (s.heap.objs.size + 1) scope.names []) (bindC (envOfC qual scope s.heap.objs.size f cdv).kindOf (ps.zip us) fun _ => none) s1 →
      Inv (cxL CX P w K mg base N qual scope f cdv A outer s H E c l) [] (L2.start N vs) H s1)
    (ht : PSs (cxL CX P w K mg base N qual scope f cdv A outer s H E c l) body t) (hq : t { nx := fun _ H' => Q .non H', rt := Q } (L2.start N vs) H) :
    codeAny (model P w) A (.call (.ref f) args) (CR CX outer P w H s Q E) s := by
  have kx : K.In s.heap := e0.mod.kin.keeps fun c u z => (e0.bs c u z).1
  have nl : s.heap.NoLimit := e0.mod.nolimit.keeps fun c u z => (e0.bs c u z).1
  have kinds : ∀ y ∈ ps.zip us, scope.names.lookup y.1 = some .local ∨ (scope.names.lookup y.1 = some .cell ∧ ((cellsFrom (s.heap.objs.size + 1) scope.names []).lookup y.1).isSome = true) := fun y hy => by
    rcases S.par y.1 (List.of_mem_zip (show (y.1, y.2) ∈ ps.zip us from hy)).1 with z | z
    · exact .inl z
    · exact .inr ⟨z, PySem.W.cellsFrom_some _ _ _ (.inl z)⟩
  refine codeAny_call_function dp (kx _ _ lk) rfl S.co S.gen rfl (PySem.W.codeRec_of kx hcd) (hb _ _ _ _ (wpAny_newFunctionEnv_cells S.kind kinds fun env he s1 x => ?_))
  subst he
  refine ⟨nl.keeps x.toInCall.keep, codeAny_func (wpAny_mono (ht.run [] s1 (L2.start N vs) H _ (hst s1 x) hq) (fun fl s' z => ?_) fun _ _ z => z)⟩
  cases fl with
  | ret u =>
    obtain ⟨v, σ', H', J, rv, q⟩ := z
    exact ⟨v, H', J.os, J.bare, J.base, J.hok, rv, q⟩
  | next =>
    obtain ⟨σ', H', J, q⟩ := z
    exact ⟨V.non, H', J.os, J.bare, J.base, J.hok, rfl, q⟩
  | brk => exact z.choose_spec.choose_spec.2.elim
  | cont => exact z.choose_spec.choose_spec.2.elim
/-- what a def promises that is called while the exception p is handled -/
structure FnP (P : Program) (w : World) (K : PySem.W.Frag) (mg : Str → Option Value) (base : Heap) (k : Nat) (f : Addr) (fd : FuncData) (ps : List Str) (p : Addr × Obj) (sp : Sp) : Prop where
  len : ∀ vs H Q E, sp vs H Q E → vs.length = ps.length
  run : ∀ (A : Around) (outer : List Env) (s : Shared) (H : Hp) (args : Args) (us : List Value) (vs : List V) (Q : VK), L2H.RoomH k A → L2H.PinOk outer H s p → Env0 P w K mg base A outer s H → BindsTo s fd args (ps.zip us) → Vals vs us → sp vs H Q E0 →
    codeAny (model P w) A (.call (.ref f) args) (CR CX0 outer P w H s Q E0) s
theorem fnP_of {x qual : Str} {st : Stmt} {p : Addr × Obj} (F : Fun K x qual st f fd) (S : FnScope N ps (defScope st)) (len : ∀ vs H Q E, sp vs H Q E → vs.length = ps.length)
    (body : ∀ cdv A outer s H vs Q, sp vs H Q E0 → ∃ t, PSs (cxL CX0 P w K mg base N qual (defScope st) f cdv A outer s H E0 false [p]) (defBody st) t ∧ t { nx := fun _ H' => Q .non H', rt := Q } (L2.start N vs) H) :
    FnP P w K mg base k f fd ps p sp := by
  obtain ⟨oc, od, kV, doc, pm, an, cdv, ct, osl, rfl, lk, hcd⟩ := F.ex
  refine ⟨len, fun A outer s H args us vs Q hr hp e0 hb r hs => ?_⟩
  obtain ⟨t, ht, hq⟩ := body cdv A outer s H vs Q hs
  exact call_run lk hcd S hr.depth e0 hb (fun s1 x => L2H.inv_startH S hp e0 (len _ _ _ _ hs) r x) ht hq
/-- what a def promises where no repr is under way -/
structure FnG (P : Program) (w : World) (K : PySem.W.Frag) (mg : Str → Option Value) (base : Heap) (k : Nat) (f : Addr) (fd : FuncData) (ps : List Str) (sp : Sp) : Prop where
  len : ∀ vs H Q E, sp vs H Q E → vs.length = ps.length
  run : ∀ (A : Around) (outer : List Env) (s : Shared) (H : Hp) (args : Args) (us : List Value) (vs : List V) (Q : VK), Room k A → A.guards = some [] → Env0 P w K mg base A outer s H → BindsTo s fd args (ps.zip us) → Vals vs us → sp vs H Q E0 →
    codeAny (model P w) A (.call (.ref f) args) (CR CX0 outer P w H s Q E0) s
theorem fnG_of {x qual : Str} {st : Stmt} (F : Fun K x qual st f fd) (S : FnScope N ps (defScope st)) (len : ∀ vs H Q E, sp vs H Q E → vs.length = ps.length)
    (body : ∀ cdv A outer s H vs Q E, Room k (A.deeper (envOfC qual (defScope st) s.heap.objs.size f cdv)) → A.guards = some [] → sp vs H Q E → ∃ t, PSs (cxOf CX0 P w K mg base N qual (defScope st) f cdv A outer s H E).nox (defBody st) t ∧ t { nx := fun _ H' => Q .non H', rt := Q } (L2.start N vs) H) :
    FnG P w K mg base (k + 1) f fd ps sp := by
  obtain ⟨oc, od, kV, doc, pm, an, cdv, ct, osl, rfl, lk, hcd⟩ := F.ex
  refine ⟨len, fun A outer s H args us vs Q hr hg e0 hb r hs => ?_⟩
  obtain ⟨t, ht, hq⟩ := body cdv A outer s H vs Q E0 (hr.deeper _) hg hs
  exact call_run (c := true) (l := []) lk hcd S hr.depth e0 hb (fun s1 x => inv_start S hr.hd e0 (len _ _ _ _ hs) r x) ht.nox hq
/-- two promises of one def -/
theorem fn_or {sp' : Sp} (F : FnOk P w K mg base CX k f fd ps sp) (G : FnOk P w K mg base CX k f fd ps sp') : FnOk P w K mg base CX k f fd ps (fun vs H Q E => sp vs H Q E ∨ sp' vs H Q E) :=
  ⟨fun vs H Q E h => h.elim (F.len vs H Q E) (G.len vs H Q E), fun A outer s H args us vs Q E hr e0 hb hv h => h.elim (F.run A outer s H args us vs Q E hr e0 hb hv) (G.run A outer s H args us vs Q E hr e0 hb hv)⟩
/-- a def that lets nothing out, as one that may -/
theorem fn_up (F : FnOk P w K mg base CX0 k f fd ps sp) : FnOk P w K mg base CX k f fd ps sp :=
  ⟨F.len, fun A outer s H args us vs Q E hr e0 hb hv h => codeAny_mono (F.run A outer s H args us vs Q E hr e0 hb hv h) fun r s' z => by
    cases r with
    | ok fl => cases fl <;> exact z
    | error e => exact (show False from z).elim⟩
end
/-! ### the caught exception handed to a def -/
section
variable {X : Cx} {k : Nat} {f : Addr} {fd : FuncData} {ps : List Str} {sp : Sp} {x : Str} {q pos : Pos} {e : Expr} {es : List Expr} {t : TA} {p : Addr × Obj}
theorem pe_callP (F : FnP X.prog X.w X.K X.mg X.base k f fd ps p sp) (hr : L2H.RoomH k X.A) (hp : p ∈ X.pn) (hg : Gl X x) (hm : X.mg x = some (.ref f)) (hk : PySem.W.keepIn X.K (.ref f) = true) (hb : Binds X.K fd ps [])
    (ha : PA X (e :: es) t) (hdb : (x == ("__debug__" : Str)) = false := by decide) (he : starEach (e :: es) X.env = (false, eval e X.env) :: starEach es X.env := by rfl) (hpl : (backTo pos (starEach es X.env)).any (·.1) = false := by rfl) :
    PE X (.Call (.Name x q) (e :: es) [] pos) (fun σ H Q => t σ H fun vs H1 => sp vs H1 Q E0) := by
  constructor
  intro pins s σ H Q I h
  refine wpAny_Call_Name_kw (ld_glob I hg hm ?_ hdb)
  refine PySem.W.callWith_K (h₀ := X.base) I.ok.mod.kin hk (thn (ha.run pos pins s σ H _ I h) fun us s1 z => ?_) he hpl
  obtain ⟨vs, H1, J, r, q⟩ := z
  refine ⟨J.kIn, ?_⟩
  have hl : us.length = ps.length := by rw [← r.length]; exact F.len _ _ _ _ q
  have b := hb s1 us J.kIn (by rw [List.append_nil]; exact hl)
  rw [List.append_nil] at b
  obtain ⟨p1, p2, p3, p4, p5⟩ := J.pin p (List.mem_append_left _ hp)
  refine wpAny_call (codeAny_mono (F.run X.A X.stack s1 H1 ⟨us, []⟩ us vs Q hr ⟨p1, p2, fun hm => (List.mem_cons.mp (J.stkSub p.1 hm)).elim p3 p4, p5⟩ J.env0 b r q) fun r s' z => ?_)
  cases r with
  | error e => exact (show False from z).elim
  | ok fl =>
    cases fl with
    | ret u => exact J.after z
    | next => exact (show False from z).elim
    | brk => exact (show False from z).elim
    | cont => exact (show False from z).elim
/-- isinstance(e, c), e the exception that is pinned -/
theorem call_isP {a D : Addr} {oe : Obj} (hp : (a, oe) ∈ X.pn) (C : L2.ExcC X.K D) (hz : L2.Zc (.ref D) none oe) (hf : ∃ vs, oe.data = .fields vs) : CallR X (.builtin "isinstance") (L2.rIsE X.K D a) := by
  intro pins s σ H xs us Q I r h
  obtain ⟨c, cv, b, rfl, hcv, e, q⟩ := h
  obtain ⟨u1, u2, rfl, r1, r2⟩ := vals2 r
  obtain rfl : u1 = Value.ref a := r1
  rw [hcv _ r2]
  have g := (I.pin (a, oe) (List.mem_append_left _ hp)).1
  have J : PySem.W.InstAt s.heap a oe D none := by
    obtain ⟨vs, hv⟩ := hf
    obtain ⟨c1, d1, dt, sl⟩ := oe
    obtain ⟨h1, h2⟩ := hz
    dsimp only at h1 h2 hv
    subst h1 h2 hv
    exact ⟨g, rfl, rfl, trivial⟩
  exact PySem.W.kia_one (PySem.W.handS_kitx_exc C.hg C.hk C.hs C.hd C.ha C.hn C.ht C.hm) I.kIn J e (fun z => nomatch z) fun tk => ⟨.bl b, H, I.kept (t' := tk) fun _ _ z => z, rfl, q⟩
/-- statements of which only some contexts ask -/
theorem pss_when {c : Prop} {sts : List Stmt} {u : TS} (h : c → PSs X sts u) : PSs X sts (fun D σ H => c ∧ u D σ H) := ⟨fun pins s σ H D I q => (h q.1).run pins s σ H D I q.2⟩
end
/-! ### try .. except A as n: .. except B as n: .. -/
def endAs (i : Nat) (D : Ends) : Ends := { nx := fun σ H => D.nx (σ.set i none) H, rt := D.rt, bk := fun σ H => D.bk (σ.set i none) H, ct := fun σ H => D.ct (σ.set i none) H }
def wManyAs (K : PySem.W.Frag) (i : Nat) (Wout : WX) (D : Ends) : List (Value × (Addr → Value → Option Addr → TS)) → WX
  | [] => Wout
  | (c, ts) :: r => fun cls d σ H => ∃ b, PySem.W.exmOne K cls c = some b ∧ (b = true → ∀ a, H a = none → ts a cls d (endAs i D) (σ.set i (some (.ref a))) H) ∧ (b = false → wManyAs K i Wout D r cls d σ H)
inductive HdsAs (X : Cx) (n : Str) : List ExceptHandler → List (Value × (Addr → Value → Option Addr → TS)) → Prop
  | nil : HdsAs X n [] []
  | cons {x : Str} {c : Value} {ts : Addr → Value → Option Addr → TS} {b₀ : Stmt} {suite : List Stmt} {np ps : Pos} {hds : List ExceptHandler} {l : List (Value × (Addr → Value → Option Addr → TS))} (hc : L2.Names X x c)
      (hsu : ∀ a oe cls d pn, L2.Zc cls d oe → (∃ vs, oe.data = .fields vs) → PSs (X.suite a ((a, oe) :: pn)) (b₀ :: suite) (ts a cls d)) (r : HdsAs X n hds l) : HdsAs X n (.ExceptHandler (some (.Name x np)) (some n) (b₀ :: suite) ps :: hds) ((c, ts) :: l)
theorem ps_try_manyAs {X : Cx} {n : Str} {i : Nat} {body : List Stmt} {h₀ : ExceptHandler} {hds : List ExceptHandler} {l : List (Value × (Addr → Value → Option Addr → TS))} {pos : Pos} {tb : WX → TS} {Wout : WX} (hs : X.stack = X.env :: X.outer) (hf : X.env.frame = some X.env.locals)
    (hN : X.N.Nodup) (hi : X.N[i]? = some n) (hln : X.env.kindOf n = some .local) (tk : L2.Takes X Wout)
    (hb : ∀ (W : WX) pn xe, L2.Takes (X.tr pn xe) W → PassesOwn (model X.prog X.w) X.A X.env xe → PSs (X.tr pn xe) body (tb W))
    (hh : HdsAs X n (h₀ :: hds) l) : PS X (.Try body (h₀ :: hds) [] [] pos) (fun D σ H => tb (wManyAs X.K i Wout D l) D σ H) := by
  constructor
  intro pins s σ H D I h
  have ok := I.ok
  have hfr : X.A.frames = some (X.env :: X.outer) := by rw [ok.frames, hs]
  have hloc : Loc X.env.scope n := .inl hln
  refine wpAny_Try_except (wpAny_mono ((hb (wManyAs X.K i Wout D l) (X.pn ++ pins) (fun e s₁ => wpAny (model X.prog X.w) X.A (noteFrame e X.env) (fun _ s₂ => wpAny (model X.prog X.w) X.A (setFlight e none) (fun _ s₃ =>
    wpAny (model X.prog X.w) X.A (handleBy e X.env (h₀ :: hds)) (SP X pins D) X.xe s₃) X.xe s₂) X.xe s₁) (fun u s' xx => ?_) PassesOwn.looking).run [] s σ H D (I.toTry _) h) (fun fl s1 z => ?_) fun _ _ z => z)
  · -- the catch
    obtain ⟨a, B, sI, pins', σ', H', cls, d, rfl, J', nb, up, sky, na, os, ag, ww⟩ := xx
    have J : Inv X pins σ' H' sI := J'.ofTry ok
    have sky2 : L2.Sky B (X.env :: X.outer) a (L2.Zc cls d) X.env.locals s'.heap := by rw [← hs]; exact sky
    show wpAny _ _ (noteFrame (.ref a) X.env) _ _ _
    refine L2.Sky.land L2.Zc.steady hfr hf sky2 fun h3 fl3 up3 => ?_
    have J3 : Inv X pins σ' H' { s' with heap := h3 } := J.landed nb fl3.1 (up.trans up3) os ag
    obtain ⟨o3, v3, g3, z3, d3⟩ := fl3.there
    have nfr : a ∉ frs (X.env :: X.outer) := fun hm => by
      obtain ⟨_, o', e', hnf⟩ := fl3.2.2.1.mem hm
      rw [g3] at e'
      cases e'
      exact hnf _ d3
    have nL : a ≠ X.env.locals := fun z => nfr (List.mem_filterMap.mpr ⟨X.env, List.mem_cons_self, by rw [hf, z]⟩)
    have nF : a ∉ X.fs := fun hm => by
      obtain ⟨e, he, q⟩ := List.mem_filterMap.mp hm
      exact nfr (List.mem_filterMap.mpr ⟨e, List.mem_cons_of_mem _ he, q⟩)
    have S3 := J3.suite g3 d3 na nL nF
    have go : ∀ {hds' l'}, HdsAs X n hds' l' → wManyAs X.K i Wout D l' cls d σ' H' → wpAny (model X.prog X.w) X.A (handleBy (.ref a) X.env hds') (SP X pins D) X.xe { s' with heap := h3 } := by
      intro hds' l' hk
      induction hk with
      | nil =>
        intro w2
        refine wpAny_handleBy_nil ?_
        obtain ⟨k1, k2, k3, oe, vs, T, oT, ts', he, hz, hd, h1, hr⟩ := id fl3
        unfold PySem.passOn
        refine wpAny_bind (wpAny_field he hd h1 ?_)
        rw [if_neg (by simp)]
        have fin : wpAny (model X.prog X.w) X.A (setFlight (.ref a) X.env.frame) (fun _ s4 => wpAny (model X.prog X.w) X.A (throw (.ref a) : Sem Flow) (SP X pins D) X.xe s4) X.xe { s' with heap := h3 } := by
          rw [hf]
          refine HandSPX.setFlight_upZ fl3 fun h4 hh4 up4 => wpAny_throw (tk _ _ ?_)
          exact ⟨a, B, sI, pins, σ', H', cls, d, rfl, J, nb, (up.trans up3).trans up4, .inr (.inr (by rw [hs]; exact hh4)), na, os, ag, w2⟩
        first
          | exact wpAny_bind fin
          | exact wpAny_bind (wpAny_pure (wpAny_bind fin))
      | @cons x c ts b₀ suite np ps hds2 l2 hc hsu r ih =>
        intro w2
        obtain ⟨b, hb1, hyes, hno⟩ := w2
        refine wpAny_handleBy_cons (codeAny_handlers_test ?_) (by intro q; cases q)
        have LT : PySem.W.Looks (model X.prog X.w) h3 (typeOf (.ref a)) cls := fun A Q E s k q => wpAny_typeOf_ref (k _ _ g3) (by rw [z3.1]; exact q)
        have LM := PySem.W.exm_one (M := model X.prog X.w) J3.kIn LT hb1
        have test : ∀ {Q : Value → Shared → Prop} {E : Value → Shared → Prop}, Q c { s' with heap := h3 } → wpAny (model X.prog X.w) (X.A.mark (some (.ref a))) (eval (.Name x np) X.env) Q E { s' with heap := h3 } := fun {Q E} q => by
          obtain ⟨hg, hdbg, hm | ⟨hm, hv, hnn⟩⟩ := hc
          · exact ld_glob (X := X.suite a ((a, o3) :: (X.pn ++ pins))) S3 hg hm q hdbg
          · exact ld_blt (X := X.suite a ((a, o3) :: (X.pn ++ pins))) S3 hg hm hv q hnn hdbg
        refine test (LM.here ?_)
        cases b with
        | true =>
          refine codeAny_handlers_suite_as (HandSPX.lands_againZ fl3 fun h4 fl4 up4 => ?_)
          have J4 : Inv X pins σ' H' { s' with heap := h4 } := J.landed nb fl4.1 ((up.trans up3).trans up4) os ag
          obtain ⟨o4, v4, g4, z4, d4⟩ := fl4.there
          have S4 := J4.suite g4 d4 na nL nF
          refine store_ok (X := X.suite a ((a, o4) :: (X.pn ++ pins))) (v := .ref a) S4 hN hi hloc rfl (fun s5 S5 => ?_) (.inr hln)
          refine wpAny_mono ((hsu a o4 cls d (X.pn ++ pins) z4 ⟨_, d4⟩).run [] s5 _ H' _ S5 (hyes rfl a na)) (fun fl s6 z => ?_) (fun _ _ z => (show False from z).elim)
          have last : ∀ {σ6 : L2.St} {H6 : Hp} {Q : Shared → Prop}, Inv (X.suite a ((a, o4) :: (X.pn ++ pins))) [] σ6 H6 s6 → (∀ s7, Inv X pins (σ6.set i none) H6 s7 → Q s7) →
              wpAny (model X.prog X.w) X.A (do bindName X.env n .none; unbindBehindTheSuite X.env n ps) (fun _ s7 => Q s7) X.xe s6 := fun {σ6 H6 Q} S6 hq => L2.gone_ok (S6.unsuite ok) hN hi hln hq
          cases fl with
          | next =>
            obtain ⟨σ6, H6, S6, q6⟩ := z
            exact last S6 fun s7 J7 => ⟨_, _, J7, q6⟩
          | brk =>
            obtain ⟨σ6, H6, S6, q6⟩ := z
            exact last S6 fun s7 J7 => ⟨_, _, J7, q6⟩
          | cont =>
            obtain ⟨σ6, H6, S6, q6⟩ := z
            exact last S6 fun s7 J7 => ⟨_, _, J7, q6⟩
          | ret u =>
            obtain ⟨v6, σ6, H6, S6, r6, q6⟩ := z
            exact last S6 fun s7 J7 => ⟨_, _, _, J7, r6, q6⟩
        | false => exact ih (hno rfl)
    exact go hh ww
  · cases fl with
    | next =>
      obtain ⟨σ', H', J', q⟩ := z
      exact wpAny_execs_nil ⟨σ', H', J'.ofTry ok, q⟩
    | brk =>
      obtain ⟨σ', H', J', q⟩ := z
      exact ⟨σ', H', J'.ofTry ok, q⟩
    | cont =>
      obtain ⟨σ', H', J', q⟩ := z
      exact ⟨σ', H', J'.ofTry ok, q⟩
    | ret u =>
      obtain ⟨v, σ', H', J', r, q⟩ := z
      exact ⟨v, σ', H', J'.ofTry ok, r, q⟩
/-! ### C(..) in a try -/
section
variable {X : Cx} {CX : CXT} {k : Nat} {f C : Addr} {fd : FuncData} {ps : List Str} {sp : Sp} {E : L2.St → XK} {x : Str} {p pos : Pos} {e : Expr} {es : List Expr} {t : TA}
def tMakeT (C : Addr) (sp : Sp) (E : L2.St → XK) (t : TA) : TE := fun σ H Q => t σ H fun vs H1 => ∀ x dx, H1 x = none → H1 dx = none → dx ≠ x → sp (.ref x :: vs) (upd (upd H1 dx (.own x)) x (.ins C dx [])) (fun v H2 => v = .non ∧ Q (.ref x) H2) (E σ)
theorem pe_makeT (M : Mk X.K C f) (F : FnOk X.prog X.w X.K X.mg X.base CX k f fd ps sp) (hr : Room (k + 1) X.A) (hg : Gl X x) (hm : X.mg x = some (.ref C)) (hb : Binds X.K fd ps []) (hx : ∀ σ, PassesAt CX X σ (E σ))
    (ha : PA X (e :: es) t) (hdb : (x == ("__debug__" : Str)) = false := by decide) (he : starEach (e :: es) X.env = (false, eval e X.env) :: starEach es X.env := by rfl) (hpl : (backTo pos (starEach es X.env)).any (·.1) = false := by rfl) :
    PE X (.Call (.Name x p) (e :: es) [] pos) (tMakeT C sp E t) := by
  constructor
  intro pins s0 σ H0 Q I0 h0
  refine wpAny_Call_Name_kw (ld_glob I0 hg hm ?_ hdb)
  refine PySem.W.callWith_K (h₀ := X.base) I0.ok.mod.kin M.kp (thn (ha.run pos pins s0 σ H0 _ I0 h0) fun us s z => ?_) he hpl
  obtain ⟨vs, H, I, r, h⟩ := z
  refine ⟨I.kIn, ?_⟩
  have hq := h (s.heap.objs.size + 1) s.heap.objs.size (I.hok.fresh (Nat.le_succ _)) (I.hok.fresh (Nat.le_refl _)) (Nat.ne_of_lt (Nat.lt_succ_self _))
  have J := Inv.made (C := C) I
  have r2 : Vals (V.ref (s.heap.objs.size + 1) :: vs) (Value.ref (s.heap.objs.size + 1) :: us) := .cons rfl r
  have hl : (Value.ref (s.heap.objs.size + 1) :: us).length = ps.length := r2.length.symm.trans (F.len _ _ _ _ hq)
  have b := hb _ (Value.ref (s.heap.objs.size + 1) :: us) J.kIn (by rw [List.append_nil]; exact hl)
  rw [List.append_nil] at b
  refine wpAny_call (make_map (f := f) I.kIn M.makes M.init (beq_iff_eq.mp M.fn) (codeAny_mono (F.run _ X.stack _ _ _ _ _ _ (E σ) (hr.make C us []) (J.env0.make C us []) b r2 hq) fun r s' z => ?_))
  cases r with
  | error e => exact hx σ pins _ _ e s' J z
  | ok fl =>
    cases fl with
    | ret u =>
      obtain ⟨v, H', J3, rv, ev, q3⟩ := J.after z
      subst ev
      exact ⟨rv, ⟨V.ref (s.heap.objs.size + 1), H', J3, rfl, q3⟩⟩
    | next => exact (show False from z).elim
    | brk => exact (show False from z).elim
    | cont => exact (show False from z).elim
end
/-! ### repr of data; x not in a tuple of data; is -/
section
variable {X : Cx} {K : PySem.W.Frag}
def rReprD (K : PySem.W.Frag) : List V → Hp → VK → Prop := fun xs H Q => ∃ (a : Addr) (d : PyData), xs = [.ref a] ∧ Dp K H (.ref a) d ∧ d.showable = true ∧ d.hasDict = false ∧ d.depth ≤ 60 ∧ d.shown.length ≤ sizeLine ∧ Q (.str d.shown) H
theorem call_reprD (e : X.K = K) (hg : X.A.guards = some []) (hu : X.A.units + 64 < cLine) : CallR X (.builtin "repr") (rReprD K) := by
  subst e
  intro pins s σ H xs us Q I r h
  obtain ⟨a, d, rfl, hd, h1, h2, h3, h4, q⟩ := h
  obtain ⟨u, rfl, ru⟩ := vals1 r
  obtain rfl : u = Value.ref a := ru
  obtain ⟨as, rd⟩ := Dp.reads I d _ _ hd rfl
  exact repr_of_reads' rd h1 (fun z => by rw [h2] at z; cases z) hg (by omega) (fun _ _ z => z) (fun h' u tk hk => ⟨.str _, H, I.kept (t' := tk) hk, ⟨u, rfl⟩, q⟩) h4
def rNotInT (K : PySem.W.Frag) : R2 := fun x y H Q => ∃ d ds, Dp K H x d ∧ Dp K H y (.tuple ds) ∧ SeqAt.shaped d = true ∧ SeqAt.shaped (.tuple ds) = true ∧ Q (.bl (!ds.any fun z => PyData.eqv z d)) H
theorem op_notInT (e : X.K = K) (hu : X.A.units + 65 < cLine) : OpR X (compareOp .NotIn) (rNotInT K) := by
  subst e
  intro pins s σ H x y v u Q I rx ry h
  obtain ⟨d, ds, hd, he, sd, se, q⟩ := h
  obtain ⟨as, r1⟩ := Dp.reads I d x v hd rx
  obtain ⟨bs, r2⟩ := Dp.reads I (.tuple ds) y u he ry
  exact SeqAt.notIn_tuple_reads r2 r1 (by have z := SeqAt.canLay_of_shaped se; simpa [PyData.canLay0] using z) (SeqAt.canLay_of_shaped sd) (room_in_shaped sd hu) ⟨.bl _, H, I, rfl, q⟩
theorem op_isB : OpR X (compareOp .Is) (fun x y H Q => ∃ b : Bool, y = .bl b ∧ (∀ a, x ≠ .ref a) ∧ Q (.bl (decide (x = .bl b))) H) := by
  intro pins s σ H x y v u Q I rx ry h
  obtain ⟨b, rfl, nr, q⟩ := h
  cases (show u = Value.bool b from ry)
  by_cases e : x = .bl b
  · subst e
    cases (show v = Value.bool b from rx)
    exact wpAny_is_self rfl ⟨.bl true, H, I, rfl, by simpa using q⟩
  · have nv : v ≠ Value.bool b := fun z => e (RelV.inj rx (by rw [z]; exact rfl))
    refine wpAny_is_other ?_ nv ⟨.bl false, H, I, rfl, by simpa [e] using q⟩
    cases x with
    | non => cases rx; rfl
    | bl _ => cases rx; rfl
    | int _ => obtain ⟨t, rfl⟩ := rx; rfl
    | str _ => obtain ⟨t, rfl⟩ := rx; rfl
    | byt _ => obtain ⟨t, rfl⟩ := rx; rfl
    | flt _ => obtain ⟨t, rfl⟩ := rx; rfl
    | ref a => exact absurd rfl (nr a)
    | ty _ => cases rx; rfl
/-- a text, or none -/
def rMulSB : R2 := fun x y H Q => ∃ (a : Str) (k : Bool), x = .str a ∧ y = .int (if k = true then 1 else 0) ∧ Q (.str (if k = true then a else Str.empty)) H
theorem op_repS : OpR X (binaryOp .Mult) rMulSB := by
  intro pins s σ H x y v u Q I rx ry h
  obtain ⟨a, k, rfl, rfl, q⟩ := h
  obtain ⟨t, rfl⟩ := rx
  obtain ⟨t', rfl⟩ := ry
  cases k with
  | false => exact PySem.P.mul_str_none (by decide) (by decide) ⟨.str Str.empty, H, I.tok _, ⟨_, rfl⟩, q⟩
  | true =>
    refine PySem.P.mul_str (by decide) (fun _ z => ?_) (fun _ z => ?_) ?_
    · exact absurd z (by simp)
    · exact absurd z (by simp)
    · exact ⟨.str a, H, I, ⟨t, rfl⟩, q⟩
end

theorem set_ints (xs : List Int) (j : Nat) (x : Int) : (xs.map V.int).set j (.int x) = (xs.set j x).map V.int := (List.map_set ..).symm
theorem ix_nat {xs : List Int} {c : Nat} (h : c < xs.length) : ixN (xs.map V.int).length (c : Int) = some c := by
  unfold ixN
  rw [List.length_map, if_pos (by omega), if_pos (by omega), Int.toNat_natCast]
theorem lst_set {H : Hp} {p : Addr} {xs : List Int} {j : Nat} {x : Int} : upd H p (.lst ((xs.map V.int).set j (.int x))) p = some (.lst ((xs.set j x).map V.int)) := by
  rw [upd_same, set_ints]
theorem getD_some {xs : List Int} {j : Nat} (h : j < xs.length) : xs[j]? = some (xs.getD j 0) := by
  rw [List.getD_eq_getElem?_getD, List.getElem?_eq_getElem h]
  rfl
theorem led_mem {C C' : List Int} {h : Nat} {cs ds : List Nat} {w l : Int} (k : Led C h ds w l C') (e : ∀ c, c ∈ ds ↔ c ∈ cs) : Led C h cs w l C' :=
  ⟨k.len, k.head, fun c hc => k.cell c ((e c).mpr hc), fun i h1 h2 => k.rest i h1 fun z => h2 ((e i).mp z)⟩
theorem head_div (n : Nat) (b : Bool) : (4 * (n : Int) + if b then 2 else 0) / 4 = (n : Int) := by cases b <;> simp <;> omega
theorem head_mark (n : Nat) (b : Bool) : ((4 * (n : Int) + if b then 2 else 0) % 4 = 2) ↔ b = true := by cases b <;> simp <;> omega
theorem at_row {M : Nat → Bool} {bs p r : List (List Int)} {fs sp : List Int} (e : bs = p ++ fs :: r) : (mflat M 0 bs ++ sp)[size p]? = some (4 * (fs.length : Int) + if M (size p) then 2 else 0) := by
  subst e
  exact row_head
theorem row_len {M : Nat → Bool} {bs : List (List Int)} {sp : List Int} : (mflat M 0 bs ++ sp).length = size bs + sp.length := by
  rw [List.length_append, mflat_length]
theorem row_marked {M : Nat → Bool} {bs p r : List (List Int)} {fs sp : List Int} (e : bs = p ++ fs :: r) : (mflat M 0 bs ++ sp).set (size p) (4 * (fs.length : Int) + 2) = mflat (mkd M (size p)) 0 bs ++ sp := by
  subst e
  exact row_mark
theorem places_len : ∀ (a : Nat) (bs : List (List Int)), (places a bs).length ≤ size bs
  | _, [] => Nat.le_refl _
  | a, fs :: r => by
    have := places_len (a + 1 + fs.length) r
    show (places (a + 1 + fs.length) r).length + 1 ≤ 1 + fs.length + size r
    omega
/-! #### heads -/
def sp_heads (K : PySem.W.Frag) : Sp := fun vs H Q _ => ∃ (a : Addr) (M : Nat → Bool) (bs : List (List Int)) (sp : List Int), vs = [.ref a, .int (size bs)] ∧ SqL K H a ((mflat M 0 bs ++ sp).map V.int) ∧ size bs ≤ 2000 ∧
    ∀ p H', H p = none → Same H H' → H' p = some (.lst ((places 0 bs).map natV)) → Q (.ref p) H'
theorem ok_heads (T : Txt K mg A) : FnOk P w K mg base CX0 2 A.f_heads A.d_heads ["row", "used"] (sp_heads K) := by
  refine T.F_heads.ok sc_heads (fun vs H Q E h => by obtain ⟨a, M, bs, sp, rfl, hS, hl, k⟩ := h; rfl) (fun cdv A' outer s H vs Q E hr h => ⟨_, (pss_cons (ps_set (i := 2) sc_heads.nd rfl (.inl rfl) (pe_lst pa_nil))
  (pss_cons (ps_set (i := 3) sc_heads.nd rfl (.inl rfl) pe_int)
  (pss_cons (ps_while PassesOwn.never (pt_cmpR op_ltI (pv 3) (pv 1) (nomark _))
  (pss_cons (ps_expr (pe_bm PySem.F.plainAttrs_list PySem.F.slot_list_append PySem.F.type_list_append mt_append (pv 2) (pa_cons (pv 3) pa_nil)))
  (pss_one (ps_set (i := 3) sc_heads.nd rfl (.inl rfl) (pe_op op_addI (pe_op op_addI (pv 3) pe_int) (pe_call (ok_fields_of T) (hr.mono (by decide)) (by rfl) T.m_fields_of T.F_fields_of.kp T.b_fields_of .nil pass0 (pa_cons (pe_ix (ix_listK (K := K) rfl) (pv 0) (pv 3) (fun _ _ => rfl)) pa_nil)))))))
  (pss_one (ps_ret (pv 2)))))), ?_⟩)
  obtain ⟨a, M, bs, sp, rfl, hS, hl, k⟩ := h
  refine ⟨Nat.zero_le _, fun p hp => ?_⟩
  walk_at "rd"
  refine ⟨fun m σ' H' => ∃ pre post, bs = pre ++ post ∧ m = post.length ∧ σ' = [some (.ref a), some (.int (size bs)), some (.ref p), some (.int (size pre))] ∧ Same H H' ∧ H' p = some (.lst ((places 0 pre).map natV)),
    ⟨_, [], bs, rfl, rfl, rfl, same_upd hp, upd_same⟩, ?_⟩
  rintro m σ' H' ⟨pre, post, eb, rfl, rfl, S, ep⟩
  cases post with
  | nil =>
    walk_at "rd"
    refine ifF (decide_eq_false (by rw [eb, List.append_nil]; omega)) ?_
    walk_at "rd"
    rw [List.append_nil] at eb
    exact k p H' hp S (by rw [eb]; exact ep)
  | cons fs r =>
    have hs := size_mid eb
    walk_at "rd"
    refine ifT (decide_eq_true (by omega)) ?_
    refine ⟨fun σ2 H2 => σ2 = [some (.ref a), some (.int (size bs)), some (.ref p), some (.int (size pre + 1 + fs.length : Nat))] ∧ Same H H2 ∧ H2 p = some (.lst ((places 0 (pre ++ [fs])).map natV)), ?_, ?_⟩
    · rintro σ2 H2 ⟨rfl, S2, ep2⟩
      refine ⟨r.length, by simp, pre ++ [fs], r, by rw [eb]; simp, rfl, ?_, S2, ep2⟩
      rw [size_append]
      show _ = [_, _, _, some (V.int ((size pre + (1 + fs.length + 0) : Nat) : Int))]
      rw [show size pre + (1 + fs.length + 0) = size pre + 1 + fs.length by omega]
    · walk_at "rd"
      refine ⟨.inl ⟨rfl, _, .of ep⟩, ?_⟩
      walk_at "rd"
      refine ⟨p, _, _, rfl, rfl, ep, sz2001 (by rw [List.length_map]; have := places_len 0 pre; omega), ?_⟩
      have S3 := fun o => same_mut (o := o) hp S
      walk_at "rd"
      refine ⟨a, _, _, _, rfl, rfl, (S3 _).seq hS, at_int (at_row eb), ?_⟩
      walk_at "rd"
      refine ⟨?_, S3 _, ?_⟩
      · rw [head_div]
        show [some (V.ref a), some (V.int (size bs)), some (V.ref p), some (V.int ((size pre : Int) + 1 + (fs.length : Int)))] = _
        rw [show ((size pre : Int) + 1 + (fs.length : Int)) = ((size pre + 1 + fs.length : Nat) : Int) by omega]
      · rw [upd_same, places_append, Nat.zero_add, List.map_append]
        rfl
theorem cut_to (xs : List V) (k : Nat) : cutV xs none (some (k : Int)) = xs.take k := by
  unfold cutV
  rw [HT.sIx_nat, HT.sIx_none, List.drop_zero, Nat.sub_zero]
  by_cases h : k ≤ xs.length
  · rw [Nat.min_eq_left h]
  · rw [Nat.min_eq_right (by omega), List.take_of_length_le (Nat.le_refl _), List.take_of_length_le (by omega)]
theorem take_set {α : Type} {l : List α} {n : Nat} {x : α} (h : n < l.length) : (l.set n x).take (n + 1) = l.take n ++ [x] := by
  rw [List.take_add_one, List.getElem?_set_self h, List.take_set_of_le (Nat.le_refl n)]
  rfl
theorem take_eq {l m : List Int} {n : Nat} (h : ∀ i, i < n → l[i]? = m[i]?) : l.take n = m.take n := by
  refine List.ext_getElem? fun i => ?_
  rw [List.getElem?_take, List.getElem?_take]
  split
  · exact h i (by assumption)
  · rfl
theorem ksize_snoc {al : Nat → Bool} {pre : List (List Int)} {fs : List Int} : ksize al 0 (pre ++ [fs]) = ksize al 0 pre + if al (size pre) then 1 + fs.length else 0 := by
  rw [ksize_append, Nat.zero_add]
  rfl
theorem outR_snoc {al : Nat → Bool} {q : Nat → Nat} {pre : List (List Int)} {fs : List Int} : outR al q 0 (pre ++ [fs]) = outR al q 0 pre ++ if al (size pre) then (4 * (fs.length : Int)) :: fs.map (relink q) else [] := by
  rw [outR_append, Nat.zero_add]
  show _ ++ (_ ++ []) = _
  rw [List.append_nil]
theorem size_snoc {pre : List (List Int)} {fs : List Int} : size (pre ++ [fs]) = size pre + 1 + fs.length := by
  rw [size_append]
  show size pre + (1 + fs.length + 0) = _
  omega
theorem ksize_pre {al : Nat → Bool} {pre : List (List Int)} : ksize al 0 pre ≤ size pre := ksize_le al 0 pre
def thV : Th → List V
  | .num n => [.str "number", .int n]
  | .box k => [.str "box", .int (k : Int)]
/-- a list of things stands at l -/
def FieldsAt (H : Hp) (l : Addr) (fs : List Th) : Prop := ∃ ts : List Addr, H l = some (.lst (ts.map V.ref)) ∧ ts.length = fs.length ∧ ∀ (i : Nat) (t : Addr) (th : Th), ts[i]? = some t → fs[i]? = some th → H t = some (.tup (thV th))
/-- a list of such lists stands at b -/
def BoxesAt (H : Hp) (b : Addr) (bxs : List (List Th)) : Prop := ∃ ls : List Addr, H b = some (.lst (ls.map V.ref)) ∧ ls.length = bxs.length ∧ b ∉ ls ∧ ∀ (i : Nat) (l : Addr) (fs : List Th), ls[i]? = some l → bxs[i]? = some fs → FieldsAt H l fs
theorem FieldsAt.same {H H' : Hp} {l : Addr} {fs : List Th} (h : FieldsAt H l fs) (s : Same H H') : FieldsAt H' l fs := by
  obtain ⟨ts, e, hl, k⟩ := h
  exact ⟨ts, s _ _ e, hl, fun i t th a b => s _ _ (k i t th a b)⟩
theorem BoxesAt.same {H H' : Hp} {b : Addr} {bxs : List (List Th)} (h : BoxesAt H b bxs) (s : Same H H') : BoxesAt H' b bxs := by
  obtain ⟨ls, e, hl, nb, k⟩ := h
  exact ⟨ls, s _ _ e, hl, nb, fun i l fs a c => (k i l fs a c).same s⟩
/-- another list is written: the things stay -/
theorem FieldsAt.other {H : Hp} {l p : Addr} {fs : List Th} {xs ys : List V} (h : FieldsAt H l fs) (hp : H p = some (.lst xs)) (n : l ≠ p) : FieldsAt (upd H p (.lst ys)) l fs := by
  obtain ⟨ts, e, hl, k⟩ := h
  refine ⟨ts, by rw [upd_ne n]; exact e, hl, fun i t th a b => ?_⟩
  have q := k i t th a b
  rw [upd_ne (show t ≠ p from ne_of q hp (by intro z; cases z))]
  exact q
theorem snoc_get {α : Type} {l : List α} {x y : α} {i : Nat} (h : (l ++ [x])[i]? = some y) : l[i]? = some y ∨ (i = l.length ∧ y = x) := by
  by_cases hi : i < l.length
  · rw [List.getElem?_append_left hi] at h
    exact .inl h
  · rw [List.getElem?_append_right (by omega)] at h
    have h2 := (List.getElem?_eq_some_iff.mp h).1
    have e : i = l.length := by simp at h2; omega
    subst e
    simp at h
    exact .inr ⟨rfl, h.symm⟩
/-- one thing more -/
theorem FieldsAt.push {H : Hp} {l t : Addr} {fs : List Th} {th : Th} (h : FieldsAt H l fs) (ht : H t = some (.tup (thV th))) : ∃ ts : List Addr, H l = some (.lst (ts.map V.ref)) ∧ ts.length = fs.length ∧ FieldsAt (upd H l (.lst ((ts ++ [t]).map V.ref))) l (fs ++ [th]) := by
  obtain ⟨ts, e, hl, k⟩ := h
  refine ⟨ts, e, hl, ts ++ [t], upd_same, by simp [hl], fun i u th' a b => ?_⟩
  have ht' : H u = some (.tup (thV th')) := by
    rcases snoc_get a with a | ⟨ia, rfl⟩
    · rcases snoc_get b with b | ⟨ib, rfl⟩
      · exact k i u th' a b
      · have := (List.getElem?_eq_some_iff.mp a).1
        omega
    · rcases snoc_get b with b | ⟨ib, rfl⟩
      · have := (List.getElem?_eq_some_iff.mp b).1
        omega
      · exact ht
  rw [upd_ne (show u ≠ l from ne_of ht' e (by intro z; cases z))]
  exact ht'
/-- one box more -/
theorem BoxesAt.push {H : Hp} {b l : Addr} {bxs : List (List Th)} {fs : List Th} (h : BoxesAt H b bxs) (hf : FieldsAt H l fs) (n : l ≠ b) : ∃ ls : List Addr, H b = some (.lst (ls.map V.ref)) ∧ ls.length = bxs.length ∧ BoxesAt (upd H b (.lst ((ls ++ [l]).map V.ref))) b (bxs ++ [fs]) := by
  obtain ⟨ls, e, hl, nb, k⟩ := h
  refine ⟨ls, e, hl, ls ++ [l], upd_same, by simp [hl], fun z => ?_, fun i u fs' a c => ?_⟩
  · rcases List.mem_append.mp z with z | z
    · exact nb z
    · exact n (show b = l by simpa using z).symm
  have nu : u ≠ b := fun z => by
    rcases snoc_get a with a | ⟨_, a⟩
    · exact nb (z ▸ List.mem_of_getElem? a)
    · exact n (a.symm.trans z)
  refine FieldsAt.other ?_ e nu
  rcases snoc_get a with a | ⟨ia, rfl⟩
  · rcases snoc_get c with c | ⟨ic, rfl⟩
    · exact k i u fs' a c
    · have := (List.getElem?_eq_some_iff.mp a).1
      omega
  · rcases snoc_get c with c | ⟨ic, rfl⟩
    · have := (List.getElem?_eq_some_iff.mp c).1
      omega
    · exact hf
theorem at_ref {ts : List Addr} {i : Nat} {t : Addr} (h : ts[i]? = some t) : atI (ts.map V.ref) (i : Int) = some (.ref t) := atI_nat (by rw [List.getElem?_map, h]; rfl)
theorem sum_nn : ∀ {zs : List Int}, (∀ z ∈ zs, 0 ≤ z) → 0 ≤ zs.sum
  | [], _ => Int.le_refl _
  | x :: r, h => by
    rw [List.sum_cons]
    have := h x List.mem_cons_self
    have := sum_nn fun z hz => h z (List.mem_cons_of_mem x hz)
    omega
theorem FieldsAt.some {H : Hp} {l : Addr} {fs : List Th} (h : FieldsAt H l fs) : ∃ o, H l = some o := by
  obtain ⟨ts, e, _⟩ := h
  exact ⟨_, e⟩
theorem fields_new {H : Hp} {l t : Addr} {th : Th} (ht : H t = some (.tup (thV th))) (hl : H l = none) : FieldsAt (upd H l (.lst [.ref t])) l [th] := by
  refine ⟨[t], upd_same, rfl, fun i u th' a b => ?_⟩
  match i, a, b with
  | 0, a, b =>
    have a : t = u := Option.some.inj a
    have b : th = th' := Option.some.inj b
    subst a b
    rw [upd_ne (ne_of_none ht hl)]
    exact ht
  | i + 1, a, _ => exact absurd a (by simp)
theorem boxes_cons {H : Hp} {l1 D q : Addr} {f0 : List Th} {bxs : List (List Th)} {ls : List Addr} (h1 : FieldsAt H l1 f0) (hD : BoxesAt H D bxs) (e : H D = some (.lst (ls.map V.ref))) (hq : H q = none) : BoxesAt (upd H q (.lst ([V.ref l1] ++ ls.map V.ref))) q (f0 :: bxs) := by
  obtain ⟨ls', e', hl, nb, k⟩ := hD
  have el : ls' = ls := by
    rw [e] at e'
    have := (HO.lst.inj (Option.some.inj e'))
    exact (List.map_inj_right (fun _ _ z => V.ref.inj z)).mp this.symm
  subst el
  have s := same_upd (o := .lst ([V.ref l1] ++ ls'.map V.ref)) hq
  refine ⟨l1 :: ls', upd_same, by simp [hl], fun z => ?_, fun i u fs a c => ?_⟩
  · rcases List.mem_cons.mp z with z | z
    · obtain ⟨o, eo⟩ := h1.some
      rw [← z, hq] at eo
      cases eo
    · obtain ⟨i, hi, ei⟩ := List.mem_iff_getElem.mp z
      have hi2 : i < bxs.length := by omega
      obtain ⟨o, eo⟩ := (k i q bxs[i] (by rw [List.getElem?_eq_getElem hi, ei]) (List.getElem?_eq_getElem hi2)).some
      rw [hq] at eo
      cases eo
  · match i, a, c with
    | 0, a, c =>
      have a : l1 = u := Option.some.inj a
      have c : f0 = fs := Option.some.inj c
      subst a c
      exact h1.same s
    | i + 1, a, c => exact (k i u fs a c).same s
theorem boxes_nil {H : Hp} {b : Addr} (h : H b = some (.lst [])) : BoxesAt H b [] := ⟨[], h, rfl, fun z => (nomatch z), fun i l fs a _ => absurd a (by simp)⟩
theorem fields_nil {H : Hp} {b : Addr} (h : H b = some (.lst [])) : FieldsAt H b [] := ⟨[], h, rfl, fun i l fs a _ => absurd a (by simp)⟩
theorem sizeT_ones : ∀ (g : Nat → Th) (n : Nat), sizeT ((List.range n).map fun j => [g j]) = 2 * n
  | g, 0 => rfl
  | g, n + 1 => by
    rw [List.range_succ, List.map_append, sizeT_append, sizeT_ones g n]
    show 2 * n + (1 + 1 + 0) = 2 * (n + 1)
    omega
theorem ref_get {ls : List Addr} {i : Nat} {x : V} (h : (ls.map V.ref)[i]? = some x) : ∃ l, ls[i]? = some l ∧ x = .ref l := by
  rw [List.getElem?_map] at h
  cases e : ls[i]? with
  | none => rw [e] at h; cases h
  | some l => rw [e] at h; exact ⟨l, rfl, (Option.some.inj h).symm⟩
theorem at_tup0 {th : Th} : atI (thV th) 0 = some (.str (match th with | .num _ => "number" | .box _ => "box")) := by cases th <;> rfl
theorem at_num {n : Int} : atI (thV (.num n)) 1 = some (.int n) := rfl
theorem at_box {k : Nat} : atI (thV (.box k)) 1 = some (.int (k : Int)) := rfl
theorem str_bn : ¬ (("box" : Str) = "number") := by decide +kernel
theorem str_nb : ¬ (("number" : Str) = "box") := by decide +kernel
theorem eq_num {th : Th} : decide (V.str (match th with | .num _ => "number" | .box _ => "box") = V.str ("number" : Str)) = (match th with | .num _ => true | .box _ => false) := by
  cases th with
  | num n => exact decide_eq_true rfl
  | box k => exact decide_eq_false fun z => str_bn (V.str.inj z)
theorem eq_box {th : Th} : decide (V.str (match th with | .num _ => "number" | .box _ => "box") = V.str ("box" : Str)) = (match th with | .num _ => false | .box _ => true) := by
  cases th with
  | num n => exact decide_eq_false fun z => str_nb (V.str.inj z)
  | box k => exact decide_eq_true rfl
theorem pe_globI {X : Cx} {x : Str} {i : Int} {pos : Pos} (hg : Gl X x) (hm : ∃ t, X.mg x = some (.int i t)) (hd : (x == ("__debug__" : Str)) = false := by decide) : PE X (.Name x pos) (tC (.int i)) := by
  obtain ⟨t, h⟩ := hm
  exact pe_glob hg h ⟨t, rfl⟩ hd
theorem fne : ¬ (("row" : Str) = "filled") := by decide +kernel
/-- a room's attributes -/
def rmf (r : Addr) (f : Nat) : List (Str × V) := putF "filled" (.int (f : Int)) (putF "row" (.ref r) [])
theorem rmf_eq (r : Addr) (f : Nat) : rmf r f = ([("row", V.ref r), ("filled", V.int (f : Int))] : List (Str × V)) := by
  show (if ("row" : Str) = "filled" then [(("row" : Str), V.int (f : Int))] else (("row" : Str), V.ref r) :: putF "filled" (V.int (f : Int)) []) = ([("row", V.ref r), ("filled", V.int (f : Int))] : List (Str × V))
  rw [if_neg fne]
  all_goals rfl
theorem rmf_row (r : Addr) (f : Nat) : (rmf r f).lookup ("row" : Str) = some (.ref r) := by
  unfold rmf
  rw [lookup_putF, if_neg fne, lookup_putF, if_pos rfl]
theorem rmf_filled (r : Addr) (f : Nat) : (rmf r f).lookup ("filled" : Str) = some (.int (f : Int)) := by
  unfold rmf
  rw [lookup_putF, if_pos rfl]
theorem rmf_no (r : Addr) (f : Nat) {m : Str} (h1 : ¬ m = "filled") (h2 : ¬ m = "row") : (rmf r f).lookup m = none := by
  unfold rmf
  rw [lookup_putF, if_neg h1, lookup_putF, if_neg h2]
  all_goals rfl
theorem rmf_len (r : Addr) (f : Nat) : (rmf r f).length < 1000 := by
  rw [rmf_eq]
  show 2 < 1000
  decide
theorem put_row (r x : Addr) (f : Nat) : putF "row" (.ref x) (rmf r f) = rmf x f := by
  rw [rmf_eq, rmf_eq]
  show (if ("row" : Str) = "row" then [(("row" : Str), V.ref x), ("filled", V.int (f : Int))] else _) = ([("row", V.ref x), ("filled", V.int (f : Int))] : List (Str × V))
  rw [if_pos rfl]
theorem put_filled (r : Addr) (f g : Nat) : putF "filled" (.int (g : Int)) (rmf r f) = rmf r g := by
  rw [rmf_eq, rmf_eq]
  show (if ("row" : Str) = "filled" then _ else (("row" : Str), V.ref r) :: (if ("filled" : Str) = "filled" then [(("filled" : Str), V.int (g : Int))] else _)) = ([("row", V.ref r), ("filled", V.int (g : Int))] : List (Str × V))
  rw [if_neg fne, if_pos rfl]
/-- a room stands at p, its row at r -/
structure RoomAt (C : Addr) (H : Hp) (p r : Addr) (bxs : List (List Th)) (N : Nat) : Prop where
  ob : ∃ dx, H p = some (.ins C dx (rmf r (sizeT bxs)))
  row : H r = some (.lst ((enc bxs N).map V.int))
theorem RoomAt.same {C : Addr} {H H' : Hp} {p r : Addr} {bxs : List (List Th)} {N : Nat} (h : RoomAt C H p r bxs N) (s : Same H H') : RoomAt C H' p r bxs N := by
  obtain ⟨⟨dx, e⟩, w⟩ := h
  exact ⟨⟨dx, s _ _ e⟩, s _ _ w⟩
/-- all but the room is as it was -/
def But (p r : Addr) (H H' : Hp) : Prop := ∀ b o, H b = some o → b ≠ p → b ≠ r → H' b = some o
theorem But.of {p r : Addr} {H H' : Hp} (s : Same H H') : But p r H H' := fun b o e _ _ => s b o e
theorem But.trans {p r : Addr} {H H1 H2 : Hp} (a : But p r H H1) (b : But p r H1 H2) : But p r H H2 := fun c o e h1 h2 => b c o (a c o e h1 h2) h1 h2
theorem But.seqL {K : PySem.W.Frag} {p r : Addr} {H H' : Hp} {a : Addr} {xs : List V} (s : But p r H H') (h : SqL K H a xs) (n1 : a ≠ p) (n2 : a ≠ r) : SqL K H' a xs := by
  rcases h with (h | ⟨o, h⟩) | h
  · exact .inl (.inl (s _ _ h n1 n2))
  · exact .inl (.inr ⟨o, s _ _ h n1 n2⟩)
  · exact .inr h
/-- a number in a thing is no greater than may be handed in -/
def OkTh : Th → Prop
  | .num n => n.natAbs < 10 ^ 60
  | .box k => k < 10 ^ 60
/-! #### is_whole -/
def sp_is_whole (K : PySem.W.Frag) : Sp := fun vs H Q _ => ∃ n : Int, vs = [.int n] ∧ Q (.bl (decide (n.natAbs < 10 ^ 60))) H
theorem ok_is_whole (T : Txt K mg A) : FnOk P w K mg base CX0 1 A.f_is_whole A.d_is_whole ["value"] (sp_is_whole K) := by
  refine T.F_is_whole.ok sc_is_whole (fun vs H Q E h => by obtain ⟨n, rfl, h⟩ := h; rfl) (fun cdv A' outer s H vs Q E hr h => ⟨_, (pss_one (ps_ret (pe_and (pe_callB (call_isiK (K := K) rfl) (by rfl) T.z_isinstance (by decide +kernel) (pa_cons (pv 0) (pa_cons (pe_bltn (v := .ty "int") (by rfl) T.z_int (by decide +kernel) rfl) pa_nil))) (pe_and (pe_not (pe_callB (call_isiK (K := K) rfl) (by rfl) T.z_isinstance (by decide +kernel) (pa_cons (pv 0) (pa_cons (pe_bltn (v := .ty "bool") (by rfl) T.z_bool (by decide +kernel) rfl) pa_nil)))) (pe_one (pe_cmpR op_ltI (pe_callB call_abs (by rfl) T.z_abs (by decide +kernel) (pa_cons (pv 0) pa_nil)) (pe_op op_powI pe_int pe_int) (nomark _))))))), ?_⟩)
  obtain ⟨n, rfl, h⟩ := h
  refine ⟨_, rfl, .int n, _, _, _, true, rfl, .ty "int", .base (.int n), kit_ty (by decide +kernel), ?_⟩
  walk_at "rd"
  refine ⟨.int n, _, _, _, false, rfl, .ty "bool", .base (.int n), kit_ty (by decide +kernel), ?_⟩
  walk_at "rd"
  have e : decide ((if n < 0 then -n else n) < (10 : Int) ^ (60 : Int).toNat) = decide (n.natAbs < 10 ^ 60) := by
    have e1 : ((10 : Int) ^ (60 : Int).toNat) = ((10 ^ 60 : Nat) : Int) := by decide +kernel
    rw [e1]
    by_cases c : n.natAbs < 10 ^ 60
    · rw [decide_eq_true c]
      exact decide_eq_true (by split <;> omega)
    · rw [decide_eq_false c]
      exact decide_eq_false (by split <;> omega)
  rw [e]
  exact h
theorem kind_n : (!inV (V.str "number") [V.str "number", V.str "box"]) = false := by decide +kernel
theorem kind_b : (!inV (V.str "box") [V.str "number", V.str "box"]) = false := by decide +kernel
theorem kind_in (th : Th) : (!inV (V.str (match th with | .num _ => "number" | .box _ => "box")) [V.str "number", V.str "box"]) = false := by
  cases th with
  | num _ => exact kind_n
  | box _ => exact kind_b
/-! #### need_thing -/
def sp_need_thing (K : PySem.W.Frag) : Sp := fun vs H Q _ => ∃ (t : Addr) (th : Th), vs = [.ref t] ∧ H t = some (.tup (thV th)) ∧ OkTh th ∧ ∀ H', Same H H' → Q .non H'
theorem ok_need_thing (T : Txt K mg A) : FnOk P w K mg base CX0 2 A.f_need_thing A.d_need_thing ["thing"] (sp_need_thing K) := by
  refine T.F_need_thing.ok sc_need_thing (fun vs H Q E h => by obtain ⟨t, th, rfl, ht, ok, k⟩ := h; rfl) (fun cdv A' outer s H vs Q E hr h => ⟨_, (pss_cons (ps_if (PW.pt (pw_or (pt_not (pt_val (pe_callB (call_isiK (K := K) rfl) (by rfl) T.z_isinstance (by decide +kernel) (pa_cons (pv 0) (pa_cons (pe_bltn (v := .ty "tuple") (by rfl) T.z_tuple (by decide +kernel) rfl) pa_nil))))) (pw_or (pt_cmpR op_ne (pe_callB (call_lenK (K := K) rfl) (by rfl) T.z_len (by decide +kernel) (pa_cons (pv 0) pa_nil)) pe_int (nomark _)) (pw_or1 (pt_not (pt_val (pe_callB (call_isiK (K := K) rfl) (by rfl) T.z_isinstance (by decide +kernel) (pa_cons (pe_ix (ix_tupK (K := K) rfl) (pv 0) pe_int (fun _ _ => rfl)) (pa_cons (pe_bltn (v := .ty "str") (by rfl) T.z_str (by decide +kernel) rfl) pa_nil)))))))))
  (pss_one ps_never)
  pss_nil)
  (pss_one (ps_if (PW.pt (pw_or (pt_cmpR (op_notInK (K := K) rfl) (pe_ix (ix_tupK (K := K) rfl) (pv 0) pe_int (fun _ _ => rfl)) (pe_tup (pa_cons pe_str (pa_cons pe_str pa_nil))) (by rfl)) (pw_or1 (pt_not (pt_val (pe_call (ok_is_whole T) (hr.mono (by decide)) (by rfl) T.m_is_whole T.F_is_whole.kp T.b_is_whole .nil pass0 (pa_cons (pe_ix (ix_tupK (K := K) rfl) (pv 0) pe_int (fun _ _ => rfl)) pa_nil)))))))
  (pss_one ps_never)
  pss_nil))), ?_⟩)
  obtain ⟨t, th, rfl, ht, ok, k⟩ := h
  have l2 : (thV th).length = 2 := by cases th <;> rfl
  walk_at "rd"
  refine ⟨.ref t, _, _, _, true, rfl, .ty "tuple", .base (.tup ht), kit_ty (by decide +kernel), ?_⟩
  walk_at "rd"
  refine ⟨t, _, rfl, .inr (.of ht), ?_⟩
  rw [l2]
  walk_at "rd"
  refine ⟨t, _, 0, _, rfl, rfl, .of ht, at_tup0, ?_⟩
  walk_at "rd"
  refine ⟨.str _, _, _, _, true, rfl, .ty "str", .base (.str _), kit_ty (by decide +kernel), ?_⟩
  walk_at "rd"
  refine ⟨t, _, 0, _, rfl, rfl, .of ht, at_tup0, ?_⟩
  walk_at "rd"
  refine ⟨by show 2 ≤ sizeLine; decide, fun q hq => ?_⟩
  refine ⟨q, _, rfl, .inr (.of upd_same), rfl, rfl, ?_⟩
  walk_at "rd"
  refine ifF (kind_in th) ?_
  have hs := same_upd (o := .tup [V.str "number", V.str "box"]) hq
  cases th with
  | num n =>
    walk_at "rd"
    refine ⟨t, _, 1, _, rfl, rfl, .of (hs _ _ ht), at_num, ?_⟩
    walk_at "rd"
    refine ifF (by rw [decide_eq_true (show n.natAbs < 10 ^ 60 from ok)]; rfl) ?_
    exact k _ hs
  | box m =>
    walk_at "rd"
    refine ⟨t, _, 1, _, rfl, rfl, .of (hs _ _ ht), at_box, ?_⟩
    walk_at "rd"
    refine ifF (by rw [decide_eq_true (show ((m : Int)).natAbs < 10 ^ 60 from ok)]; rfl) ?_
    exact k _ hs
/-! #### thing_of -/
def sp_thing_of (K : PySem.W.Frag) : Sp := fun vs H Q _ => ∃ th : Th, vs = [.int (wordT (fun k => (k : Int)) th)] ∧ ∀ t H', H t = none → Same H H' → H' t = some (.tup (thV th)) → Q (.ref t) H'
theorem ok_thing_of (T : Txt K mg A) : FnOk P w K mg base CX0 2 A.f_thing_of A.d_thing_of ["word"] (sp_thing_of K) := by
  refine T.F_thing_of.ok sc_thing_of (fun vs H Q E h => by obtain ⟨th, rfl, k⟩ := h; rfl) (fun cdv A' outer s H vs Q E hr h => ⟨_, (pss_cons (ps_if (pt_val (pe_call (ok_is_link T) (hr.mono (by decide)) (by rfl) T.m_is_link T.F_is_link.kp T.b_is_link .nil pass0 (pa_cons (pv 0) pa_nil)))
  (pss_one (ps_ret (pe_tup (pa_cons pe_str (pa_cons (pe_call (ok_told_by T) (hr.mono (by decide)) (by rfl) T.m_told_by T.F_told_by.kp T.b_told_by .nil pass0 (pa_cons (pv 0) pa_nil)) pa_nil)))))
  pss_nil)
  (pss_one (ps_ret (pe_tup (pa_cons pe_str (pa_cons (pe_call (ok_told_by T) (hr.mono (by decide)) (by rfl) T.m_told_by T.F_told_by.kp T.b_told_by .nil pass0 (pa_cons (pv 0) pa_nil)) pa_nil)))))), ?_⟩)
  obtain ⟨th, rfl, k⟩ := h
  cases th with
  | num n =>
    walk_at "rd"
    refine ifF (decide_eq_false (by show ¬ (2 * n) % 2 = 1; omega)) ?_
    walk_at "rd"
    refine ⟨by show 2 ≤ sizeLine; decide, fun t ht => ?_⟩
    refine k t _ ht (same_upd ht) ?_
    rw [upd_same, show wordT (fun k => (k : Int)) (.num n) / 2 = n from by show (2 * n) / 2 = n; omega]
    rfl
  | box m =>
    walk_at "rd"
    refine ifT (decide_eq_true (by show (2 * (m : Int) + 1) % 2 = 1; omega)) ?_
    walk_at "rd"
    refine ⟨by show 2 ≤ sizeLine; decide, fun t ht => ?_⟩
    refine k t _ ht (same_upd ht) ?_
    rw [upd_same, show wordT (fun k => (k : Int)) (.box m) / 2 = (m : Int) from by show (2 * (m : Int) + 1) / 2 = (m : Int); omega]
    rfl
theorem enc_new {d n : Nat} (h : d < n) : enc [List.replicate d (.num 0)] n = (4 * (d : Int)) :: List.replicate d 0 ++ List.replicate (n - d - 1) 0 := by
  unfold enc
  show (4 * ((List.replicate d (Th.num 0)).length : Int)) :: ((List.replicate d (Th.num 0)).map _ ++ []) ++ List.replicate (n - (1 + (List.replicate d (Th.num 0)).length + 0)) 0 = _
  rw [List.length_replicate, List.append_nil, List.map_replicate, show n - (1 + d + 0) = n - d - 1 by omega]
  rfl
theorem row_new (d m : Nat) : [V.int (4 * (d : Int) + if false then 2 else 0)] ++ List.replicate d (V.int (2 * 0)) ++ List.replicate m (V.int 0) = ((4 * (d : Int)) :: List.replicate d 0 ++ List.replicate m 0).map V.int := by
  rw [if_neg Bool.false_ne_true, Int.add_zero, List.map_append, List.map_cons, List.map_replicate, List.map_replicate]
  rfl
/-! #### Room.__init__ -/
def sp_Rinit (K : PySem.W.Frag) (A : Adr) : Sp := fun vs H Q _ => ∃ (p dx : Addr) (n d : Nat), vs = [.ref p, .int n, .int d] ∧ H p = some (.ins A.c_Room dx []) ∧ d ≤ 20 ∧ d < n ∧ n ≤ 400 ∧
    ∀ r H', H r = none → RoomAt A.c_Room H' p r [List.replicate d (.num 0)] n → (∀ b o, H b = some o → b ≠ p → H' b = some o) → Q .non H'
theorem ok_Rinit (T : Txt K mg A) : FnOk P w K mg base CX0 2 A.f_Rinit A.d_Rinit ["self", "size", "doors"] (sp_Rinit K A) := by
  refine T.F_Rinit.ok sc_Rinit (fun vs H Q E h => by obtain ⟨p, dx, n, d, rfl, hp, h20, hdn, h400, k⟩ := h; rfl) (fun cdv A' outer s H vs Q E hr h => ⟨_, (pss_cons (ps_if (PW.pt (pw_or (pt_not (pt_val (pe_call (ok_is_whole T) (hr.mono (by decide)) (by rfl) T.m_is_whole T.F_is_whole.kp T.b_is_whole .nil pass0 (pa_cons (pv 1) pa_nil)))) (pw_or (pt_not (pt_val (pe_call (ok_is_whole T) (hr.mono (by decide)) (by rfl) T.m_is_whole T.F_is_whole.kp T.b_is_whole .nil pass0 (pa_cons (pv 2) pa_nil)))) (pw_or1 (pt_not (pt_chain op_leI op_leI pe_int (pv 1) (pe_globI rfl T.m_MOST_CELLS)))))))
  (pss_one ps_never)
  pss_nil)
  (pss_cons (ps_if (PW.pt (pw_or (pt_not (pt_chain op_leI op_leI pe_int (pv 2) (pe_globI rfl T.m_MOST_DOORS))) (pw_or1 (pt_cmpR op_geI (pv 2) (pv 1) (nomark _)))))
  (pss_one ps_never)
  pss_nil)
  (pss_cons (ps_fld (pv 0) (pe_op op_cat (pe_op op_cat (pe_lst (pa_cons (pe_call (ok_head_word T) (hr.mono (by decide)) (by rfl) T.m_head_word T.F_head_word.kp T.b_head_word .nil pass0 (pa_cons (pv 2) (pa_cons pe_bl pa_nil))) pa_nil)) (pe_op op_rep (pe_lst (pa_cons (pe_call (ok_number_word T) (hr.mono (by decide)) (by rfl) T.m_number_word T.F_number_word.kp T.b_number_word .nil pass0 (pa_cons pe_int pa_nil)) pa_nil)) (pv 2))) (pe_op op_rep (pe_lst (pa_cons pe_int pa_nil)) (pe_op op_subI (pe_op op_subI (pv 1) (pv 2)) pe_int))) rfl)
  (pss_one (ps_fld (pv 0) (pe_op op_addI pe_int (pv 2)) rfl))))), ?_⟩)
  obtain ⟨p, dx, n, d, rfl, hp, h20, hdn, h400, k⟩ := h
  walk_at "rd"
  refine ifF (by rw [decide_eq_true (show ((n : Int)).natAbs < 10 ^ 60 by omega)]; rfl) ?_
  walk_at "rd"
  refine ifF (by rw [decide_eq_true (show ((d : Int)).natAbs < 10 ^ 60 by omega)]; rfl) ?_
  walk_at "rd"
  refine ifT (decide_eq_true (by omega)) ?_
  walk_at "rd"
  refine ifF (by rw [decide_eq_true (show (n : Int) ≤ 400 by omega)]; rfl) ?_
  walk_at "rd"
  refine ifF (by rw [decide_eq_true (show (d : Int) ≤ 20 by omega)]; rfl) ?_
  walk_at "rd"
  refine ifF (decide_eq_false (by omega)) ?_
  -- the row
  walk_at "rd"
  refine ⟨by show 1 ≤ sizeLine; decide, fun a1 h1 => ?_⟩
  walk_at "rd"
  refine ⟨by show 1 ≤ sizeLine; decide, fun a2 h2 => ?_⟩
  walk_at "rd"
  refine ⟨a2, (d : Int), _, rfl, rfl, upd_same, by omega, by omega, sz2000 (by rw [Int.toNat_natCast]; show 1 * d ≤ _; omega), fun a3 h3 => ?_⟩
  rw [Int.toNat_natCast, List.flatten_replicate_singleton]
  have n12 : a1 ≠ a2 := fun z => by rw [← z, upd_same] at h2; cases h2
  have n13 : a1 ≠ a3 := fun z => by rw [← z, upd_ne n12, upd_same] at h3; cases h3
  refine ⟨a1, a3, _, _, rfl, rfl, by rw [upd_ne n13, upd_ne n12, upd_same], upd_same, sz2000 (by rw [List.length_replicate]; show 1 + d ≤ _; omega), fun a4 h4 => ?_⟩
  walk_at "rd"
  refine ⟨by show 1 ≤ sizeLine; decide, fun a5 h5 => ?_⟩
  walk_at "rd"
  rw [show (n : Int) - (d : Int) - 1 = ((n - d - 1 : Nat) : Int) by omega]
  refine ⟨a5, _, _, rfl, rfl, upd_same, by omega, by omega, sz2000 (by rw [Int.toNat_natCast]; show 1 * _ ≤ _; omega), fun a6 h6 => ?_⟩
  rw [Int.toNat_natCast, List.flatten_replicate_singleton]
  have n45 : a4 ≠ a5 := fun z => by rw [← z, upd_same] at h5; cases h5
  have n46 : a4 ≠ a6 := fun z => by rw [← z, upd_ne n45, upd_same] at h6; cases h6
  refine ⟨a4, a6, _, _, rfl, rfl, by rw [upd_ne n46, upd_ne n45, upd_same], upd_same, sz2000 (by rw [List.length_append, List.length_replicate, List.length_replicate]; show 1 + d + _ ≤ _; omega), fun a7 h7 => ?_⟩
  have S6 := (same_upd (o := .lst [V.int (4 * (d : Int) + if false then 2 else 0)]) h1).trans ((same_upd (o := .lst [V.int (2 * 0)]) h2).trans ((same_upd (o := .lst (List.replicate d (V.int (2 * 0)))) h3).trans ((same_upd (o := .lst ([V.int (4 * (d : Int) + if false then 2 else 0)] ++ List.replicate d (V.int (2 * 0)))) h4).trans ((same_upd (o := .lst [V.int 0]) h5).trans (same_upd (o := .lst (List.replicate (n - d - 1) (V.int 0))) h6)))))
  have h70 : H a7 = none := S6.free h7
  have np7 : p ≠ a7 := ne_of_none hp h70
  have S7 := fun o => S6.trans (same_upd (o := o) h7)
  -- self.row, self.filled
  walk_at "rd"
  refine ⟨p, A.c_Room, dx, _, rfl, S7 _ _ _ hp, T.clR, T.na_row, by show 0 < 1000; decide, ?_⟩
  walk_at "rd"
  refine ⟨p, A.c_Room, dx, _, rfl, upd_same, T.clR, T.na_filled, by show 1 < 1000; decide, ?_⟩
  refine k a7 _ h70 ⟨⟨dx, ?_⟩, ?_⟩ fun b o e hb => by rw [upd_ne hb, upd_ne hb]; exact S7 _ _ _ e
  · rw [upd_same]
    have es : sizeT [List.replicate d (Th.num 0)] = 1 + d := by
      show 1 + (List.replicate d (Th.num 0)).length + 0 = _
      rw [List.length_replicate, Nat.add_zero]
    rw [es, show (1 : Int) + (d : Int) = ((1 + d : Nat) : Int) by omega]
    rfl
  · rw [upd_ne np7.symm, upd_ne np7.symm, upd_same, enc_new hdn]
    exact congrArg (fun z => some (HO.lst z)) (row_new d (n - d - 1))
/-! #### Room.need_box -/
def sp_Rneed_box (K : PySem.W.Frag) (A : Adr) : Sp := fun vs H Q _ => ∃ (p r : Addr) (bxs : List (List Th)) (N k : Nat), vs = [.ref p, .int (plT bxs k)] ∧ RoomAt A.c_Room H p r bxs N ∧ RoomOk bxs N ∧ k < bxs.length ∧ ∀ H', Same H H' → Q .non H'
theorem ok_Rneed_box (T : Txt K mg A) : FnOk P w K mg base CX0 3 A.f_Rneed_box A.d_Rneed_box ["self", "place"] (sp_Rneed_box K A) := by
  refine T.F_Rneed_box.ok sc_Rneed_box (fun vs H Q E h => by obtain ⟨p, r, bxs, N, i, rfl, R, ok, hi, k⟩ := h; rfl) (fun cdv A' outer s H vs Q E hr h => ⟨_, (pss_one (ps_if (PW.pt (pw_or (pt_not (pt_val (pe_call (ok_is_whole T) (hr.mono (by decide)) (by rfl) T.m_is_whole T.F_is_whole.kp T.b_is_whole .nil pass0 (pa_cons (pv 1) pa_nil)))) (pw_or1 (pt_cmpR (op_notInK (K := K) rfl) (pv 1) (pe_call (ok_heads T) (hr.mono (by decide)) (by rfl) T.m_heads T.F_heads.kp T.b_heads .nil pass0 (pa_cons (pe_fldK (K := K) rfl (pv 0) rfl) (pa_cons (pe_fldK (K := K) rfl (pv 0) rfl) pa_nil))) (by rfl)))))
  (pss_one ps_never)
  pss_nil)), ?_⟩)
  obtain ⟨p, r, bxs, N, i, rfl, R, ok, hi, k⟩ := h
  obtain ⟨⟨dx, eo⟩, er⟩ := id R
  have hpl : plT bxs i ≤ 400 := by
    have := sizeT_field (List.getElem?_eq_getElem hi)
    have := ok.sz
    have := ok.le
    omega
  walk_at "rd"
  refine ifF (by rw [decide_eq_true (show ((plT bxs i : Int)).natAbs < 10 ^ 60 by omega)]; rfl) ?_
  walk_at "rd"
  refine ⟨p, A.c_Room, dx, _, _, rfl, eo, T.clR, T.na_row, rmf_row _ _, ?_⟩
  walk_at "rd"
  refine ⟨p, A.c_Room, dx, _, _, rfl, eo, T.clR, T.na_filled, rmf_filled _ _, ?_⟩
  have esz : sizeT bxs = size (bsOf (pg bxs) bxs) := (size_bsOf _ _).symm
  rw [enc_eq] at er
  refine ⟨r, fun _ => false, bsOf (pg bxs) bxs, _, by rw [esz]; rfl, .of er, by rw [← esz]; have := ok.sz; have := ok.le; omega, fun q H1 hq s1 eq => ?_⟩
  rw [places_bsOf] at eq
  walk_at "rd"
  refine ⟨q, _, rfl, .inl (.of eq), rfl, flat_nats _, ?_⟩
  walk_at "rd"
  refine ifF ?_ ?_
  · show (!inV (.int (plT bxs i : Int)) ((placesT 0 bxs).map natV)) = false
    rw [in_nats, decide_eq_true (List.mem_of_getElem? (placesT_get0 hi))]
    rfl
  · exact k _ s1
/-! #### Room.word_of -/
def sp_Rword_of (K : PySem.W.Frag) (A : Adr) : Sp := fun vs H Q _ => ∃ (p r t : Addr) (bxs : List (List Th)) (N : Nat) (th : Th), vs = [.ref p, .ref t] ∧ RoomAt A.c_Room H p r bxs N ∧ RoomOk bxs N ∧ H t = some (.tup (thV (toPl bxs th))) ∧ (∀ k, th = .box k → k < bxs.length) ∧ ∀ H', Same H H' → Q (.int (wordT (pg bxs) th)) H'
theorem ok_Rword_of (T : Txt K mg A) : FnOk P w K mg base CX0 4 A.f_Rword_of A.d_Rword_of ["self", "thing"] (sp_Rword_of K A) := by
  refine T.F_Rword_of.ok sc_Rword_of (fun vs H Q E h => by obtain ⟨p, r, t, bxs, N, th, rfl, R, ok, ht, hv, k⟩ := h; rfl) (fun cdv A' outer s H vs Q E hr h => ⟨_, (pss_cons (ps_if (pt_cmpR op_eq (pe_ix (ix_tupK (K := K) rfl) (pv 1) pe_int (fun _ _ => rfl)) pe_str (nomark _))
  (pss_one (ps_ret (pe_call (ok_number_word T) (hr.mono (by decide)) (by rfl) T.m_number_word T.F_number_word.kp T.b_number_word .nil pass0 (pa_cons (pe_ix (ix_tupK (K := K) rfl) (pv 1) pe_int (fun _ _ => rfl)) pa_nil))))
  pss_nil)
  (pss_cons (ps_expr (pe_meth (pv 0) T.clR T.me_Rneed_box (ok_Rneed_box T) (hr.mono (by decide)) T.b_Rneed_box .nil pass0 (pa_cons (pe_ix (ix_tupK (K := K) rfl) (pv 1) pe_int (fun _ _ => rfl)) pa_nil)))
  (pss_one (ps_ret (pe_call (ok_link_word T) (hr.mono (by decide)) (by rfl) T.m_link_word T.F_link_word.kp T.b_link_word .nil pass0 (pa_cons (pe_ix (ix_tupK (K := K) rfl) (pv 1) pe_int (fun _ _ => rfl)) pa_nil)))))), ?_⟩)
  obtain ⟨p, r, t, bxs, N, th, rfl, R, ok, ht, hv, k⟩ := h
  obtain ⟨⟨dx, eo⟩, er⟩ := id R
  walk_at "rd"
  refine ⟨t, _, 0, _, rfl, rfl, .of ht, at_tup0, ?_⟩
  walk_at "rd"
  rw [eq_num]
  cases th with
  | num n =>
    refine ifT rfl ?_
    walk_at "rd"
    refine ⟨t, _, 1, _, rfl, rfl, .of ht, at_num, ?_⟩
    walk_at "rd"
    exact k _ (Same.refl _)
  | box m =>
    have hm := hv m rfl
    refine ifF rfl ?_
    walk_at "rd"
    refine ⟨p, dx, _, rfl, eo, rmf_no _ _ (by decide +kernel) (by decide +kernel), ?_⟩
    walk_at "rd"
    refine ⟨t, _, 1, _, rfl, rfl, .of ht, at_box, ?_⟩
    refine ⟨p, r, bxs, N, m, rfl, R, ok, hm, fun H1 s1 => ?_⟩
    walk_at "rd"
    refine ⟨t, _, 1, _, rfl, rfl, .of (s1 _ _ ht), at_box, ?_⟩
    walk_at "rd"
    exact k _ s1
theorem cut_take (xs : List V) (k : Nat) : cutV xs none (some (k : Int)) = xs.take k := by
  unfold cutV
  rw [HT.sIx_nat, show HT.sIx xs.length 0 none = 0 from rfl, List.drop_zero, Nat.sub_zero]
  by_cases h : k ≤ xs.length
  · rw [Nat.min_eq_left h]
  · rw [Nat.min_eq_right (by omega), List.take_of_length_le (Nat.le_refl _), List.take_of_length_le (by omega)]
theorem cut_drop (xs : List V) (k : Nat) : cutV xs (some (k : Int)) none = xs.drop k := by
  unfold cutV
  rw [HT.sIx_nat, show HT.sIx xs.length xs.length none = xs.length from rfl]
  by_cases h : k ≤ xs.length
  · rw [Nat.min_eq_left h, List.take_of_length_le (by rw [List.length_drop]; exact Nat.le_refl _)]
  · rw [Nat.min_eq_right (by omega), List.drop_of_length_le (Nat.le_refl _), List.drop_of_length_le (by omega)]
    exact List.take_nil

/-! #### Room.made -/
def sp_Rmade (K : PySem.W.Frag) (A : Adr) : Sp := fun vs H Q E => ∃ (p r l : Addr) (bxs : List (List Th)) (N : Nat) (ths : List Th), vs = [.ref p, .ref l] ∧ RoomAt A.c_Room H p r bxs N ∧ RoomOk bxs N ∧ FieldsAt H l (ths.map (toPl bxs)) ∧ (∀ th ∈ ths, OkTh (toPl bxs th)) ∧ (∀ k, Th.box k ∈ ths → k < bxs.length) ∧ ths.length ≤ 1000 ∧
    (sizeT bxs + 1 + ths.length ≤ N → ∀ r' H', H r' = none → RoomAt A.c_Room H' p r' (bxs ++ [ths]) N → (∀ b o, H b = some o → b ≠ p → H' b = some o) → Q (.int (sizeT bxs)) H') ∧
    (N < sizeT bxs + 1 + ths.length → ∀ H', Same H H' → E (.ref A.c_NoRoom) none H')
theorem ok_Rmade (T : Txt K mg A) : FnOk P w K mg base (L2.CX P w) 5 A.f_Rmade A.d_Rmade ["self", "things"] (sp_Rmade K A) := by
  refine T.F_Rmade.okX sc_Rmade (fun vs H Q E h => by obtain ⟨p, r, l, bxs, N, ths, rfl, R, ok, F, okt, vt, hl, k, kx⟩ := h; rfl) (fun cdv A' outer s H vs Q E hr h => ⟨_, (pss_cons (ps_for (passes_of rfl) rfl (pi_listK (K := K) rfl (pv 1)) (pg_name (i := 2) sc_Rmade.nd rfl (.inl rfl))
  (pss_one (ps_expr (pe_call (ok_need_thing T) (hr.mono (by decide)) (by rfl) T.m_need_thing T.F_need_thing.kp T.b_need_thing .nil pass0 (pa_cons (pv 2) pa_nil)))))
  (pss_cons (ps_set (i := 3) sc_Rmade.nd rfl (.inl rfl) (pe_op op_cat (pe_lst (pa_cons (pe_call (ok_head_word T) (hr.mono (by decide)) (by rfl) T.m_head_word T.F_head_word.kp T.b_head_word .nil pass0 (pa_cons (pe_callB (call_lenK (K := K) rfl) (by rfl) T.z_len (by decide +kernel) (pa_cons (pv 1) pa_nil)) (pa_cons pe_bl pa_nil))) pa_nil)) (pe_lc (own := [("thing", 2)]) (g := gName 2) rfl sc_Rmade.nd (pi_listK (K := K) rfl (pv 1)) (blkOk_by (own := [("thing", 2)]) (N := ["self", "things", "thing", "words", "place"]) (sc := defScope s_Rmade) (by decide +kernel)) (fun _ _ _ _ _ => pg_name (i := 2) sc_Rmade.nd rfl (.inl rfl)) (fun _ _ _ _ _ => pts_nil) (fun _ _ _ _ _ => (pe_meth (pv 0) T.clR T.me_Rword_of (ok_Rword_of T) (hr.mono (by decide)) T.b_Rword_of .nil pass0 (pa_cons (pv 2) pa_nil))))))
  (pss_cons (ps_if (pt_cmpR op_gtI (pe_op op_addI (pe_fldK (K := K) rfl (pv 0) rfl) (pe_callB (call_lenK (K := K) rfl) (by rfl) T.z_len (by decide +kernel) (pa_cons (pv 3) pa_nil))) (pe_callB (call_lenK (K := K) rfl) (by rfl) T.z_len (by decide +kernel) (pa_cons (pe_fldK (K := K) rfl (pv 0) rfl) pa_nil)) (nomark _))
  (pss_one (ps_raise rfl (takes_of rfl rfl rfl rfl) (pmk_own PySem.F.excBase_ValueError T.x_NoRoom T.m_NoRoom T.k_NoRoom (raises_own T.sb_NoRoom T.ty_NoRoom) rfl)))
  pss_nil)
  (pss_cons (ps_set (i := 4) sc_Rmade.nd rfl (.inl rfl) (pe_fldK (K := K) rfl (pv 0) rfl))
  (pss_cons (ps_fld (pv 0) (pe_op op_cat (pe_op op_cat (pe_slice (sl_listK (K := K) rfl) (pe_fldK (K := K) rfl (pv 0) rfl) po_none (po_some (pv 4))) (pv 3)) (pe_slice (sl_listK (K := K) rfl) (pe_fldK (K := K) rfl (pv 0) rfl) (po_some (pe_op op_addI (pv 4) (pe_callB (call_lenK (K := K) rfl) (by rfl) T.z_len (by decide +kernel) (pa_cons (pv 3) pa_nil)))) po_none)) rfl)
  (pss_cons (ps_fld (pv 0) (pe_op op_addI (pv 4) (pe_callB (call_lenK (K := K) rfl) (by rfl) T.z_len (by decide +kernel) (pa_cons (pv 3) pa_nil))) rfl)
  (pss_one (ps_ret (pv 4))))))))), ?_⟩)
  obtain ⟨p, r, l, bxs, N, ths, rfl, R, ok, F, okt, vt, hl, k, kx⟩ := h
  obtain ⟨⟨dx, eo⟩, er⟩ := id R
  obtain ⟨ts, ets, lts, kt⟩ := id F
  rw [List.length_map] at lts
  have h400 := ok.le
  walk_at "rd"
  refine ⟨⟨_, .of ets⟩, for_list (K := K) (a := l) (xs := ts.map V.ref) (fun i σ' H' => ∃ y : Option V, σ' = [some (.ref p), some (.ref l), y, none, none] ∧ Same H H') ⟨none, rfl, Same.refl _⟩ (fun i σ' H' _ ⟨_, _, s⟩ => .of (s _ _ ets)) ?_ ?_⟩
  · rintro i x σ' H' hx ⟨y, rfl, S⟩
    obtain ⟨t, et, rfl⟩ := ref_get hx
    have hi : i < ths.length := by
      have := (List.getElem?_eq_some_iff.mp et).1
      omega
    have eth : (ths.map (toPl bxs))[i]? = some (toPl bxs ths[i]) := by
      rw [List.getElem?_map, List.getElem?_eq_getElem hi]
      rfl
    walk_at "rd"
    refine ⟨t, _, rfl, S _ _ (kt i t _ et eth), okt _ (List.getElem_mem hi), fun H2 s2 => ?_⟩
    exact ⟨_, rfl, S.trans s2⟩
  rintro σ' H1 ⟨y, rfl, S⟩
  have R1 := R.same S
  -- the words
  walk_at "rd"
  refine ⟨l, _, rfl, .inl (.of (S _ _ ets)), ?_⟩
  rw [List.length_map, lts]
  walk_at "rd"
  refine ⟨by show 1 ≤ sizeLine; decide, fun a1 h1 => ?_⟩
  have S1 := fun o => S.trans (same_upd (o := o) h1)
  walk_at "rd"
  refine ⟨⟨_, .of (S1 _ _ _ ets)⟩, fun D hD => lc_list (K := K) (a := l) (xs := ts.map V.ref) (fun i H' => Same (upd H1 a1 (.lst [V.int (4 * (ths.length : Int) + if false then 2 else 0)])) H' ∧ H' D = some (.lst (((ths.take i).map (wordT (pg bxs))).map V.int))) ⟨same_upd hD, upd_same⟩ (fun i H' _ p => .of (p.1 _ _ (S1 _ _ _ ets))) (fun i x H' hx p => ?_) (fun H2 p => ?_)⟩
  · obtain ⟨t, et, rfl⟩ := ref_get hx
    have hi : i < ths.length := by
      have := (List.getElem?_eq_some_iff.mp et).1
      omega
    have eth : (ths.map (toPl bxs))[i]? = some (toPl bxs ths[i]) := by
      rw [List.getElem?_map, List.getElem?_eq_getElem hi]
      rfl
    have S3 := (S1 _).trans p.1
    refine ⟨rfl, ?_⟩
    walk_at "rd"
    refine ⟨_, dx, _, rfl, S3 _ _ eo, rmf_no _ _ (by decide +kernel) (by decide +kernel), ?_⟩
    walk_at "rd"
    refine ⟨_, r, t, bxs, N, ths[i], rfl, R.same S3, ok, S3 _ _ (kt i t _ et eth), fun k hk => vt k (hk ▸ List.getElem_mem hi), fun H4 s4 => ?_⟩
    refine ⟨_, s4 _ _ p.2, sz2001 (by rw [List.length_map, List.length_map, List.length_take]; omega), same_mut hD (p.1.trans s4), ?_⟩
    rw [upd_same, List.take_add_one, List.getElem?_eq_getElem hi, Option.toList_some, List.map_append, List.map_append]
    rfl
  obtain ⟨p1, p2⟩ := p
  rw [List.length_map, lts, List.take_length] at p2
  have n1D : a1 ≠ D := fun z => by rw [← z, upd_same] at hD; cases hD
  refine ⟨a1, D, _, _, rfl, rfl, p1 _ _ upd_same, p2, sz2000 (by rw [List.length_map, List.length_map]; show 1 + ths.length ≤ _; omega), fun a2 h2 => ?_⟩
  have S2 := fun o => ((S1 _).trans p1).trans (same_upd (o := o) h2)
  have ew := fun o => S2 o
  clear ew
  have lw : ((4 * (ths.length : Int)) :: ths.map (wordT (pg bxs))).length = 1 + ths.length := by rw [List.length_cons, List.length_map]; omega
  have e2 : ([V.int (4 * (ths.length : Int) + if false then 2 else 0)] ++ (ths.map (wordT (pg bxs))).map V.int) = ((4 * (ths.length : Int)) :: ths.map (wordT (pg bxs))).map V.int := by
    rw [if_neg Bool.false_ne_true, Int.add_zero]
    rfl
  rw [e2]
  have S3 := S2 (.lst (((4 * (ths.length : Int)) :: ths.map (wordT (pg bxs))).map V.int))
  have ea2 : (upd H2 a2 (.lst (((4 * (ths.length : Int)) :: ths.map (wordT (pg bxs))).map V.int))) a2 = some (.lst (((4 * (ths.length : Int)) :: ths.map (wordT (pg bxs))).map V.int)) := upd_same
  revert S3 ea2
  generalize upd H2 a2 (.lst (((4 * (ths.length : Int)) :: ths.map (wordT (pg bxs))).map V.int)) = H3
  intro S3 ea2
  clear S2 h2 p2 p1 hD S1 h1 R1 S
  have er3 := S3 _ _ er
  have eo3 := S3 _ _ eo
  have nrp : r ≠ p := fun z => by rw [z, eo] at er; cases er
  -- room enough
  walk_at "rd"
  refine ⟨p, A.c_Room, dx, _, _, rfl, eo3, T.clR, T.na_filled, rmf_filled _ _, ?_⟩
  walk_at "rd"
  refine ⟨a2, _, rfl, .inl (.of ea2), ?_⟩
  rw [List.length_map, lw]
  walk_at "rd"
  refine ⟨p, A.c_Room, dx, _, _, rfl, eo3, T.clR, T.na_row, rmf_row _ _, ?_⟩
  walk_at "rd"
  refine ⟨r, _, rfl, .inl (.of er3), ?_⟩
  rw [List.length_map, enc_len ok.sz]
  walk_at "rd"
  by_cases hz : N < sizeT bxs + 1 + ths.length
  · refine ifT (decide_eq_true (by omega)) ?_
    exact kx hz _ S3
  refine ifF (decide_eq_false (by omega)) ?_
  replace hz : sizeT bxs + 1 + ths.length ≤ N := by omega
  replace k := k hz
  -- the row
  walk_at "rd"
  refine ⟨p, A.c_Room, dx, _, _, rfl, eo3, T.clR, T.na_filled, rmf_filled _ _, ?_⟩
  walk_at "rd"
  refine ⟨p, A.c_Room, dx, _, _, rfl, eo3, T.clR, T.na_row, rmf_row _ _, ?_⟩
  walk_at "rd"
  refine ⟨r, _, rfl, .of er3, fun b1 g1 => ?_⟩
  rw [cut_take]
  have T1 := same_upd (o := .lst (((enc bxs N).map V.int).take (sizeT bxs))) g1
  walk_at "rd"
  have n21 : a2 ≠ b1 := ne_of_none ea2 g1
  refine ⟨b1, a2, _, _, rfl, rfl, upd_same, T1 _ _ ea2, sz2000 (by rw [List.length_take, List.length_map, List.length_map, lw]; have := ok.sz; omega), fun b2 g2 => ?_⟩
  have T2 := fun o => T1.trans (same_upd (o := o) g2)
  walk_at "rd"
  refine ⟨p, A.c_Room, dx, _, _, rfl, T2 _ _ _ eo3, T.clR, T.na_row, rmf_row _ _, ?_⟩
  walk_at "rd"
  refine ⟨a2, _, rfl, .inl (.of (T2 _ _ _ ea2)), ?_⟩
  rw [List.length_map, lw]
  walk_at "rd"
  refine ⟨r, _, rfl, .of (T2 _ _ _ er3), fun b3 g3 => ?_⟩
  rw [show (sizeT bxs : Int) + ((1 + ths.length : Nat) : Int) = ((sizeT bxs + (1 + ths.length) : Nat) : Int) by omega, cut_drop]
  have n23 : b2 ≠ b3 := fun z => by rw [← z, upd_same] at g3; cases g3
  have T3 := fun o' => (T2 _).trans (same_upd (o := o') g3)
  refine ⟨b2, b3, _, _, rfl, rfl, by rw [upd_ne n23, upd_same], upd_same, sz2000 (by rw [List.length_append, List.length_take, List.length_drop, List.length_map, List.length_map, lw, enc_len ok.sz]; omega), fun b4 g4 => ?_⟩
  have eb : ((enc bxs N).map V.int).take (sizeT bxs) ++ ((4 * (ths.length : Int)) :: ths.map (wordT (pg bxs))).map V.int ++ ((enc bxs N).map V.int).drop (sizeT bxs + (1 + ths.length)) = (enc (bxs ++ [ths]) N).map V.int := by
    rw [← List.map_take, ← List.map_drop, ← List.map_append, ← List.map_append, ← enc_made ok vt hz]
  rw [eb]
  have T4 := fun o'' => (T3 _).trans (same_upd (o := o'') g4)
  have g40 : H b4 = none := S3.free ((T3 _).free g4)
  have np4 : p ≠ b4 := ne_of_none eo g40
  walk_at "rd"
  refine ⟨p, A.c_Room, dx, _, rfl, T4 _ _ _ eo3, T.clR, T.na_row, rmf_len _ _, ?_⟩
  rw [put_row]
  walk_at "rd"
  refine ⟨a2, _, rfl, .inl (.of (by rw [upd_ne (show a2 ≠ p from fun z => by rw [z, eo3] at ea2; cases ea2)]; exact T4 _ _ _ ea2)), ?_⟩
  rw [List.length_map, lw]
  walk_at "rd"
  refine ⟨p, A.c_Room, dx, _, rfl, upd_same, T.clR, T.na_filled, rmf_len _ _, ?_⟩
  rw [show (sizeT bxs : Int) + ((1 + ths.length : Nat) : Int) = ((sizeT (bxs ++ [ths]) : Nat) : Int) by rw [sizeT_append]; show _ = ((sizeT bxs + (1 + ths.length + 0) : Nat) : Int); omega, put_filled]
  walk_at "rd"
  refine k b4 _ g40 ⟨⟨dx, upd_same⟩, ?_⟩ fun b o e hb => by rw [upd_ne hb, upd_ne hb]; exact T4 _ _ _ (S3 _ _ e)
  rw [upd_ne np4.symm, upd_ne np4.symm, upd_same]
theorem pad_len (n : Nat) : (List.replicate n (0 : Int)).length = n := List.length_replicate
theorem room_nil {bxs : List (List Th)} {N : Nat} (ok : RoomOk bxs N) : bsOf (pg bxs) bxs ≠ [] := fun z => by
  have e : bxs = [] := List.map_eq_nil_iff.mp z
  have := ok.ne
  rw [e] at this
  exact absurd this (by decide)
/-! #### Room.put -/
def sp_Rput (K : PySem.W.Frag) (A : Adr) : Sp := fun vs H Q _ => ∃ (p r t : Addr) (bxs : List (List Th)) (N i f : Nat) (fs : List Th) (th : Th), vs = [.ref p, .int (plT bxs i), .int f, .ref t] ∧ RoomAt A.c_Room H p r bxs N ∧ RoomOk bxs N ∧ bxs[i]? = some fs ∧ f < fs.length ∧ H t = some (.tup (thV (toPl bxs th))) ∧ OkTh (toPl bxs th) ∧ (∀ k, th = .box k → k < bxs.length) ∧
    ∀ H', RoomAt A.c_Room H' p r (bxs.set i (fs.set f th)) N → (∀ b o, H b = some o → b ≠ r → H' b = some o) → Q .non H'
theorem ok_Rput (T : Txt K mg A) : FnOk P w K mg base CX0 5 A.f_Rput A.d_Rput ["self", "place", "field", "thing"] (sp_Rput K A) := by
  refine T.F_Rput.ok sc_Rput (fun vs H Q E h => by obtain ⟨p, r, t, bxs, N, i, f, fs, th, rfl, R, ok, hi, hf, ht, okt, vt, k⟩ := h; rfl) (fun cdv A' outer s H vs Q E hr h => ⟨_, (pss_cons (ps_expr (pe_meth (pv 0) T.clR T.me_Rneed_box (ok_Rneed_box T) (hr.mono (by decide)) T.b_Rneed_box .nil pass0 (pa_cons (pv 1) pa_nil)))
  (pss_cons (ps_if (PW.pt (pw_or (pt_not (pt_val (pe_call (ok_is_whole T) (hr.mono (by decide)) (by rfl) T.m_is_whole T.F_is_whole.kp T.b_is_whole .nil pass0 (pa_cons (pv 2) pa_nil)))) (pw_or1 (pt_not (pt_chain op_leI op_ltI pe_int (pv 2) (pe_call (ok_fields_of T) (hr.mono (by decide)) (by rfl) T.m_fields_of T.F_fields_of.kp T.b_fields_of .nil pass0 (pa_cons (pe_ix (ix_listK (K := K) rfl) (pe_fldK (K := K) rfl (pv 0) rfl) (pv 1) (fun _ _ => rfl)) pa_nil)))))))
  (pss_one ps_never)
  pss_nil)
  (pss_cons (ps_expr (pe_call (ok_need_thing T) (hr.mono (by decide)) (by rfl) T.m_need_thing T.F_need_thing.kp T.b_need_thing .nil pass0 (pa_cons (pv 3) pa_nil)))
  (pss_one (ps_asg (pe_meth (pv 0) T.clR T.me_Rword_of (ok_Rword_of T) (hr.mono (by decide)) T.b_Rword_of .nil pass0 (pa_cons (pv 3) pa_nil)) (pg_sub (pe_fldK (K := K) rfl (pv 0) rfl) (pe_op op_addI (pe_op op_addI (pv 1) pe_int) (pv 2)) set_list)))))), ?_⟩)
  obtain ⟨p, r, t, bxs, N, i, f, fs, th, rfl, R, ok, hi, hf, ht, okt, vt, k⟩ := h
  have hil := (List.getElem?_eq_some_iff.mp hi).1
  have hsf := sizeT_field hi
  have h400 := ok.le
  have hsz := ok.sz
  walk_at "rd"
  obtain ⟨⟨dx, eo⟩, er⟩ := id R
  refine ⟨p, dx, _, rfl, eo, rmf_no _ _ (by decide +kernel) (by decide +kernel), ?_⟩
  walk_at "rd"
  refine ⟨p, r, bxs, N, i, rfl, R, ok, hil, fun H1 s1 => ?_⟩
  have eo1 := s1 _ _ eo
  have er1 := s1 _ _ er
  walk_at "rd"
  refine ifF (by rw [decide_eq_true (show ((f : Int)).natAbs < 10 ^ 60 by omega)]; rfl) ?_
  walk_at "rd"
  refine ⟨p, A.c_Room, dx, _, _, rfl, eo1, T.clR, T.na_row, rmf_row _ _, ?_⟩
  walk_at "rd"
  refine ⟨r, _, _, _, rfl, rfl, .of er1, at_int (enc_head hi), ?_⟩
  walk_at "rd"
  rw [show (4 * (fs.length : Int)) / 4 = (fs.length : Int) by omega]
  refine ifF (by rw [decide_eq_true (show (f : Int) < (fs.length : Int) by omega)]; rfl) ?_
  walk_at "rd"
  refine ⟨t, _, rfl, s1 _ _ ht, okt, fun H2 s2 => ?_⟩
  have s12 := s1.trans s2
  walk_at "rd"
  refine ⟨p, dx, _, rfl, s12 _ _ eo, rmf_no _ _ (by decide +kernel) (by decide +kernel), ?_⟩
  walk_at "rd"
  refine ⟨p, r, t, bxs, N, th, rfl, R.same s12, ok, s12 _ _ ht, vt, fun H3 s3 => ?_⟩
  have s13 := s12.trans s3
  walk_at "rd"
  refine ⟨p, A.c_Room, dx, _, _, rfl, s13 _ _ eo, T.clR, T.na_row, rmf_row _ _, ?_⟩
  walk_at "rd"
  rw [show (plT bxs i : Int) + 1 + (f : Int) = ((plT bxs i + 1 + f : Nat) : Int) by omega]
  refine ⟨r, _, ((plT bxs i + 1 + f : Nat) : Int), plT bxs i + 1 + f, rfl, rfl, s13 _ _ er, ix_nat (by rw [enc_len hsz]; omega), ?_⟩
  rw [set_ints, ← enc_put hi hf]
  have nrp : r ≠ p := fun z => by rw [z, eo] at er; cases er
  refine k _ ⟨⟨dx, ?_⟩, upd_same⟩ fun b o e hb => by rw [upd_ne hb]; exact s13 _ _ e
  rw [upd_ne nrp.symm, sizeT_set hi List.length_set]
  exact s13 _ _ eo
/-! #### Room.told -/
def sp_Rtold (K : PySem.W.Frag) (A : Adr) : Sp := fun vs H Q _ => ∃ (p r : Addr) (bxs : List (List Th)) (N i : Nat) (fs : List Th), vs = [.ref p, .int (plT bxs i)] ∧ RoomAt A.c_Room H p r bxs N ∧ RoomOk bxs N ∧ bxs[i]? = some fs ∧
    ∀ l H', H l = none → Same H H' → FieldsAt H' l (fs.map (toPl bxs)) → Q (.ref l) H'
theorem ok_Rtold (T : Txt K mg A) : FnOk P w K mg base CX0 4 A.f_Rtold A.d_Rtold ["self", "place"] (sp_Rtold K A) := by
  refine T.F_Rtold.ok sc_Rtold (fun vs H Q E h => by obtain ⟨p, r, bxs, N, i, fs, rfl, R, ok, hi, k⟩ := h; rfl) (fun cdv A' outer s H vs Q E hr h => ⟨_, (pss_cons (ps_expr (pe_meth (pv 0) T.clR T.me_Rneed_box (ok_Rneed_box T) (hr.mono (by decide)) T.b_Rneed_box .nil pass0 (pa_cons (pv 1) pa_nil)))
  (pss_one (ps_ret (pe_lc (own := [("word", 2)]) (g := gName 2) rfl sc_Rtold.nd (pi_listK (K := K) rfl (pe_slice (sl_listK (K := K) rfl) (pe_fldK (K := K) rfl (pv 0) rfl) (po_some (pe_op op_addI (pv 1) pe_int)) (po_some (pe_op op_addI (pe_op op_addI (pv 1) pe_int) (pe_call (ok_fields_of T) (hr.mono (by decide)) (by rfl) T.m_fields_of T.F_fields_of.kp T.b_fields_of .nil pass0 (pa_cons (pe_ix (ix_listK (K := K) rfl) (pe_fldK (K := K) rfl (pv 0) rfl) (pv 1) (fun _ _ => rfl)) pa_nil)))))) (blkOk_by (own := [("word", 2)]) (N := ["self", "place", "word"]) (sc := defScope s_Rtold) (by decide +kernel)) (fun _ _ _ _ _ => pg_name (i := 2) sc_Rtold.nd rfl (.inl rfl)) (fun _ _ _ _ _ => pts_nil) (fun _ _ _ _ _ => (pe_call (ok_thing_of T) (hr.mono (by decide)) (by rfl) T.m_thing_of T.F_thing_of.kp T.b_thing_of .nil pass0 (pa_cons (pv 2) pa_nil))))))), ?_⟩)
  obtain ⟨p, r, bxs, N, i, fs, rfl, R, ok, hi, k⟩ := h
  have hil := (List.getElem?_eq_some_iff.mp hi).1
  have hsf := sizeT_field hi
  have h400 := ok.le
  have hsz := ok.sz
  walk_at "rd"
  obtain ⟨⟨dx, eo⟩, er⟩ := id R
  refine ⟨p, dx, _, rfl, eo, rmf_no _ _ (by decide +kernel) (by decide +kernel), ?_⟩
  walk_at "rd"
  refine ⟨p, r, bxs, N, i, rfl, R, ok, hil, fun H1 s1 => ?_⟩
  have eo1 := s1 _ _ eo
  have er1 := s1 _ _ er
  walk_at "rd"
  refine ⟨p, A.c_Room, dx, _, _, rfl, eo1, T.clR, T.na_row, rmf_row _ _, ?_⟩
  walk_at "rd"
  refine ⟨p, A.c_Room, dx, _, _, rfl, eo1, T.clR, T.na_row, rmf_row _ _, ?_⟩
  walk_at "rd"
  refine ⟨r, _, _, _, rfl, rfl, .of er1, at_int (enc_head hi), ?_⟩
  walk_at "rd"
  rw [show (4 * (fs.length : Int)) / 4 = (fs.length : Int) by omega, show (plT bxs i : Int) + 1 + (fs.length : Int) = ((plT bxs i + 1 + fs.length : Nat) : Int) by omega, show (plT bxs i : Int) + 1 = ((plT bxs i + 1 : Nat) : Int) by omega]
  refine ⟨r, _, rfl, .of er1, fun q hq => ?_⟩
  have ecut : cutV ((enc bxs N).map V.int) (some ((plT bxs i + 1 : Nat) : Int)) (some ((plT bxs i + 1 + fs.length : Nat) : Int)) = ((fs.map (toPl bxs)).map (wordT fun k => (k : Int))).map V.int := by
    rw [cut_nat, ← List.map_drop, ← List.map_take, show plT bxs i + 1 + fs.length - (plT bxs i + 1) = fs.length by omega, enc_fields hi, List.map_map (f := toPl bxs)]
    exact congrArg _ (List.map_congr_left fun t _ => word_toPl)
  rw [ecut]
  have s2 := fun o => s1.trans (same_upd (o := o) hq)
  walk_at "rd"
  refine ⟨⟨_, .of upd_same⟩, fun D hD => lc_list (K := K) (a := q) (xs := ((fs.map (toPl bxs)).map (wordT fun k => (k : Int))).map V.int) (fun j H' => Same (upd H1 q (.lst (((fs.map (toPl bxs)).map (wordT fun k => (k : Int))).map V.int))) H' ∧ FieldsAt H' D ((fs.map (toPl bxs)).take j)) ⟨same_upd hD, [], upd_same, rfl, fun j u th z => (nomatch z)⟩ (fun j H' _ p => .of (p.1 _ _ upd_same)) (fun j x H' hx p => ?_) (fun H2 p => ?_)⟩
  · obtain ⟨th, eth, rfl⟩ : ∃ th, (fs.map (toPl bxs))[j]? = some th ∧ x = .int (wordT (fun k => (k : Int)) th) := by
      rw [List.getElem?_map, List.getElem?_map] at hx
      cases e : (fs.map (toPl bxs))[j]? with
      | none => rw [e] at hx; cases hx
      | some th => rw [e] at hx; exact ⟨th, rfl, (Option.some.inj hx).symm⟩
    have hj : j < fs.length := by
      have := (List.getElem?_eq_some_iff.mp eth).1
      rw [List.length_map] at this
      exact this
    refine ⟨rfl, ?_⟩
    walk_at "rd"
    refine fun t H4 h4 s4 e4 => ?_
    obtain ⟨ts, e5, l5, F5⟩ := (p.2.same s4).push e4
    refine ⟨_, e5, sz2001 (by rw [List.length_map, l5, List.length_take, List.length_map]; omega), same_mut hD (p.1.trans s4), ?_⟩
    rw [List.take_add_one, eth, Option.toList_some]
    rw [List.map_append] at F5
    exact F5
  obtain ⟨p1, p2⟩ := p
  rw [List.length_map, List.length_map, List.take_length] at p2
  exact k D _ (s1.free ((same_upd hq).free hD)) ((s2 _).trans p1) p2
/-! #### Room.places -/
def sp_Rplaces (K : PySem.W.Frag) (A : Adr) : Sp := fun vs H Q _ => ∃ (p r : Addr) (bxs : List (List Th)) (N : Nat), vs = [.ref p] ∧ RoomAt A.c_Room H p r bxs N ∧ RoomOk bxs N ∧
    ∀ q H', H q = none → Same H H' → H' q = some (.lst ((placesT 0 bxs).map natV)) → Q (.ref q) H'
theorem ok_Rplaces (T : Txt K mg A) : FnOk P w K mg base CX0 3 A.f_Rplaces A.d_Rplaces ["self"] (sp_Rplaces K A) := by
  refine T.F_Rplaces.ok sc_Rplaces (fun vs H Q E h => by obtain ⟨p, r, bxs, N, rfl, R, ok, k⟩ := h; rfl) (fun cdv A' outer s H vs Q E hr h => ⟨_, (pss_one (ps_ret (pe_call (ok_heads T) (hr.mono (by decide)) (by rfl) T.m_heads T.F_heads.kp T.b_heads .nil pass0 (pa_cons (pe_fldK (K := K) rfl (pv 0) rfl) (pa_cons (pe_fldK (K := K) rfl (pv 0) rfl) pa_nil))))), ?_⟩)
  obtain ⟨p, r, bxs, N, rfl, R, ok, k⟩ := h
  obtain ⟨⟨dx, eo⟩, er⟩ := id R
  walk_at "rd"
  refine ⟨p, A.c_Room, dx, _, _, rfl, eo, T.clR, T.na_row, rmf_row _ _, ?_⟩
  walk_at "rd"
  refine ⟨p, A.c_Room, dx, _, _, rfl, eo, T.clR, T.na_filled, rmf_filled _ _, ?_⟩
  have esz : sizeT bxs = size (bsOf (pg bxs) bxs) := (size_bsOf _ _).symm
  rw [enc_eq] at er
  refine ⟨r, fun _ => false, bsOf (pg bxs) bxs, _, by rw [esz]; rfl, .of er, by rw [← esz]; have := ok.sz; have := ok.le; omega, fun q H1 hq s1 eq => ?_⟩
  rw [places_bsOf] at eq
  exact k q H1 hq s1 eq
theorem placesT_range (bxs : List (List Th)) : placesT 0 bxs = (List.range bxs.length).map (plT bxs) := by
  refine List.ext_getElem? fun i => ?_
  by_cases h : i < bxs.length
  · rw [placesT_get0 h, List.getElem?_map, List.getElem?_eq_getElem (by rw [List.length_range]; exact h), List.getElem_range]
    rfl
  · rw [List.getElem?_eq_none (by rw [placesT_len]; omega), List.getElem?_eq_none (by rw [List.length_map, List.length_range]; omega)]
theorem come_list {bxs : List (List Th)} (v : VB bxs) (h0 : 0 < bxs.length) : (placesT 0 bxs).filter (alive (bsOf (pg bxs) bxs)) = (keptT bxs).map (plT bxs) := by
  rw [placesT_range, List.filter_map]
  unfold keptT
  exact congrArg _ (List.filter_congr fun k hk => alive_pl v h0 (List.mem_range.mp hk))
/-! #### Room.used -/
def sp_Rused (K : PySem.W.Frag) (A : Adr) : Sp := fun vs H Q _ => ∃ (p r : Addr) (bxs : List (List Th)) (N : Nat), vs = [.ref p] ∧ RoomAt A.c_Room H p r bxs N ∧ Q (.int (sizeT bxs)) H
theorem ok_Rused (T : Txt K mg A) : FnOk P w K mg base CX0 1 A.f_Rused A.d_Rused ["self"] (sp_Rused K A) := by
  refine T.F_Rused.ok sc_Rused (fun vs H Q E h => by obtain ⟨p, r, bxs, N, rfl, R, k⟩ := h; rfl) (fun cdv A' outer s H vs Q E hr h => ⟨_, (pss_one (ps_ret (pe_fldK (K := K) rfl (pv 0) rfl))), ?_⟩)
  obtain ⟨p, r, bxs, N, rfl, R, k⟩ := h
  obtain ⟨⟨dx, eo⟩, er⟩ := id R
  walk_at "rd"
  refine ⟨p, A.c_Room, dx, _, _, rfl, eo, T.clR, T.na_filled, rmf_filled _ _, ?_⟩
  exact k
/-! #### Room.cells -/
def sp_Rcells (K : PySem.W.Frag) (A : Adr) : Sp := fun vs H Q _ => ∃ (p r : Addr) (bxs : List (List Th)) (N : Nat), vs = [.ref p] ∧ RoomAt A.c_Room H p r bxs N ∧ ∀ q, H q = none → Q (.ref q) (upd H q (.lst ((enc bxs N).map V.int)))
theorem ok_Rcells (T : Txt K mg A) : FnOk P w K mg base CX0 1 A.f_Rcells A.d_Rcells ["self"] (sp_Rcells K A) := by
  refine T.F_Rcells.ok sc_Rcells (fun vs H Q E h => by obtain ⟨p, r, bxs, N, rfl, R, k⟩ := h; rfl) (fun cdv A' outer s H vs Q E hr h => ⟨_, (pss_one (ps_ret (pe_callTy (call_list_ofK (K := K) rfl) (by rfl) T.z_list (by decide +kernel) (pa_cons (pe_fldK (K := K) rfl (pv 0) rfl) pa_nil)))), ?_⟩)
  obtain ⟨p, r, bxs, N, rfl, R, k⟩ := h
  obtain ⟨⟨dx, eo⟩, er⟩ := id R
  walk_at "rd"
  refine ⟨p, A.c_Room, dx, _, _, rfl, eo, T.clR, T.na_row, rmf_row _ _, ?_⟩
  walk_at "rd"
  exact ⟨r, _, rfl, .inl (.of er), k⟩
theorem room65 {k : Nat} {A : Around} (hr : Room k A) : A.units + 65 < cLine := by
  have := hr.un
  omega
/-- the values that are handed in -/
inductive Kv (H : Hp) : V → Prop
  | int (n : Int) : Kv H (.int n)
  | bl (b : Bool) : Kv H (.bl b)
  | str (s : Str) : Kv H (.str s)
  | non : Kv H .non
  | lst {a : Addr} {xs : List V} (e : H a = some (.lst xs)) : Kv H (.ref a)
  | tup {a : Addr} {xs : List V} (e : H a = some (.tup xs)) : Kv H (.ref a)
theorem Kv.same {H H' : Hp} {v : V} (h : Kv H v) (s : Same H H') : Kv H' v := by
  cases h with
  | int n => exact .int n
  | bl b => exact .bl b
  | str x => exact .str x
  | non => exact .non
  | lst e => exact .lst (s _ _ e)
  | tup e => exact .tup (s _ _ e)
/-- a whole number -/
def whole : V → Bool
  | .int n => decide (n.natAbs < 10 ^ 60)
  | _ => false
theorem whole_int {v : V} (h : whole v = true) : ∃ n : Int, v = .int n ∧ n.natAbs < 10 ^ 60 := by
  cases v with
  | int n => exact ⟨n, rfl, of_decide_eq_true h⟩
  | _ => exact absurd h Bool.false_ne_true
def knd (b : Bool) : Str := if b = true then "box" else "number"
/-- a thing as it is told: a kind, and a number -/
def GoodT (H : Hp) (v : V) : Prop := ∃ (t : Addr) (b : Bool) (n : Int), v = .ref t ∧ H t = some (.tup [.str (knd b), .int n]) ∧ n.natAbs < 10 ^ 60
theorem GoodT.same {H H' : Hp} {v : V} (h : GoodT H v) (s : Same H H') : GoodT H' v := by
  obtain ⟨t, b, n, e, et, hn⟩ := h
  exact ⟨t, b, n, e, s _ _ et, hn⟩
/-- what is no thing -/
inductive BadT (H : Hp) : V → Prop
  | str (s : Str) : BadT H (.str s)
  | non : BadT H .non
  | lst {a : Addr} {xs : List V} (e : H a = some (.lst xs)) : BadT H (.ref a)
  | one {a : Addr} {xs : List V} (e : H a = some (.tup xs)) (hl : xs.length ≠ 2) : BadT H (.ref a)
  | fst {a : Addr} {n : Int} {y : V} (e : H a = some (.tup [.int n, y])) : BadT H (.ref a)
  | word {a : Addr} {s : Str} {y : V} (e : H a = some (.tup [.str s, y])) (hs : inV (.str s) [V.str "number", V.str "box"] = false) : BadT H (.ref a)
  | val {a : Addr} {b : Bool} {y : V} (e : H a = some (.tup [.str (knd b), y])) (hy : Kv H y) (hw : whole y = false) : BadT H (.ref a)
theorem BadT.same {H H' : Hp} {v : V} (h : BadT H v) (s : Same H H') : BadT H' v := by
  cases h with
  | str x => exact .str x
  | non => exact .non
  | lst e => exact .lst (s _ _ e)
  | one e hl => exact .one (s _ _ e) hl
  | fst e => exact .fst (s _ _ e)
  | word e hs => exact .word (s _ _ e) hs
  | val e hy hw => exact .val (s _ _ e) (hy.same s) hw
theorem knd_in (b : Bool) : (!inV (V.str (knd b)) [V.str "number", V.str "box"]) = false := by cases b <;> decide +kernel
theorem knd_num (b : Bool) : decide (V.str (knd b) = V.str ("number" : Str)) = !b := by cases b <;> decide +kernel
theorem not_place {bxs : List (List Th)} {z : Int} (h : ∀ k, k < bxs.length → V.int (plT bxs k : Int) ≠ .int z) : (!inV (.int z) ((placesT 0 bxs).map natV)) = true := by
  have q : inV (.int z) ((placesT 0 bxs).map natV) = false := by
    unfold inV
    rw [List.any_map]
    refine List.any_eq_false.mpr fun d hd => ?_
    show ¬ ((d : Int) == z) = true
    intro e
    obtain ⟨i, hi, ei⟩ := List.mem_iff_getElem.mp hd
    rw [placesT_len] at hi
    have e2 := placesT_get0 hi
    rw [List.getElem?_eq_getElem (by rw [placesT_len]; exact hi), ei] at e2
    have e3 := Option.some.inj e2
    exact h i hi (by rw [← e3, show (d : Int) = z by simpa using e])
  rw [q]
  rfl
/-! #### is_whole -/
def sp_is_wholeM (K : PySem.W.Frag) : Sp := fun vs H Q _ => ∃ v : V, vs = [v] ∧ Kv H v ∧ Q (.bl (whole v)) H
theorem ok_is_wholeM (T : Txt K mg A) : FnOk P w K mg base CX0 1 A.f_is_whole A.d_is_whole ["value"] (sp_is_wholeM K) := by
  refine T.F_is_whole.ok sc_is_whole (fun vs H Q E h => by obtain ⟨v, rfl, hv, h⟩ := h; rfl) (fun cdv A' outer s H vs Q E hr h => ⟨_, (pss_one (ps_ret (pe_and (pe_callB (call_isiK (K := K) rfl) (by rfl) T.z_isinstance (by decide +kernel) (pa_cons (pv 0) (pa_cons (pe_bltn (v := .ty "int") (by rfl) T.z_int (by decide +kernel) rfl) pa_nil))) (pe_and (pe_not (pe_callB (call_isiK (K := K) rfl) (by rfl) T.z_isinstance (by decide +kernel) (pa_cons (pv 0) (pa_cons (pe_bltn (v := .ty "bool") (by rfl) T.z_bool (by decide +kernel) rfl) pa_nil)))) (pe_one (pe_cmpR op_ltI (pe_callB call_abs (by rfl) T.z_abs (by decide +kernel) (pa_cons (pv 0) pa_nil)) (pe_op op_powI pe_int pe_int) (nomark _))))))), ?_⟩)
  obtain ⟨v, rfl, hv, h⟩ := h
  cases hv with
  | int n =>
    refine ⟨_, rfl, .int n, _, _, _, true, rfl, .ty "int", .base (.int n), kit_ty (by decide +kernel), ?_⟩
    walk_at "rd"
    refine ⟨.int n, _, _, _, false, rfl, .ty "bool", .base (.int n), kit_ty (by decide +kernel), ?_⟩
    walk_at "rd"
    have e : decide ((if n < 0 then -n else n) < (10 : Int) ^ (60 : Int).toNat) = decide (n.natAbs < 10 ^ 60) := by
      have e1 : ((10 : Int) ^ (60 : Int).toNat) = ((10 ^ 60 : Nat) : Int) := by decide +kernel
      rw [e1]
      by_cases c : n.natAbs < 10 ^ 60
      · rw [decide_eq_true c]
        exact decide_eq_true (by split <;> omega)
      · rw [decide_eq_false c]
        exact decide_eq_false (by split <;> omega)
    rw [e]
    exact h
  | bl b =>
    refine ⟨_, rfl, .bl b, _, _, _, true, rfl, .ty "int", .base (.bl b), kit_ty (by decide +kernel), ?_⟩
    walk_at "rd"
    refine ⟨.bl b, _, _, _, true, rfl, .ty "bool", .base (.bl b), kit_ty (by decide +kernel), ?_⟩
    walk_at "rd"
    exact h
  | str s =>
    refine ⟨_, rfl, .str s, _, _, _, false, rfl, .ty "int", .base (.str s), kit_ty (by decide +kernel), ?_⟩
    walk_at "rd"
    exact h
  | non =>
    refine ⟨_, rfl, .non, _, _, _, false, rfl, .ty "int", .base .non, kit_ty (by decide +kernel), ?_⟩
    walk_at "rd"
    exact h
  | lst e =>
    refine ⟨_, rfl, .ref _, _, _, _, false, rfl, .ty "int", .base (.lst e), kit_ty (by decide +kernel), ?_⟩
    walk_at "rd"
    exact h
  | tup e =>
    refine ⟨_, rfl, .ref _, _, _, _, false, rfl, .ty "int", .base (.tup e), kit_ty (by decide +kernel), ?_⟩
    walk_at "rd"
    exact h
/-! #### need_thing -/
def sp_need_thingM (K : PySem.W.Frag) (A : Adr) : Sp := fun vs H Q E => ∃ v : V, vs = [v] ∧ ((GoodT H v ∧ ∀ H', Same H H' → Q .non H') ∨ (BadT H v ∧ ∀ H', Same H H' → E (.ref A.c_BadThing) none H'))
theorem ok_need_thingM (T : Txt K mg A) : FnOk P w K mg base (L2.CX P w) 2 A.f_need_thing A.d_need_thing ["thing"] (sp_need_thingM K A) := by
  refine T.F_need_thing.okX sc_need_thing (fun vs H Q E h => by obtain ⟨v, rfl, h⟩ := h; rfl) (fun cdv A' outer s H vs Q E hr h => ⟨_, (pss_cons (ps_if (PW.pt (pw_or (pt_not (pt_val (pe_callB (call_isiK (K := K) rfl) (by rfl) T.z_isinstance (by decide +kernel) (pa_cons (pv 0) (pa_cons (pe_bltn (v := .ty "tuple") (by rfl) T.z_tuple (by decide +kernel) rfl) pa_nil))))) (pw_or (pt_cmpR op_ne (pe_callB (call_lenK (K := K) rfl) (by rfl) T.z_len (by decide +kernel) (pa_cons (pv 0) pa_nil)) pe_int (nomark _)) (pw_or1 (pt_not (pt_val (pe_callB (call_isiK (K := K) rfl) (by rfl) T.z_isinstance (by decide +kernel) (pa_cons (pe_ix (ix_tupK (K := K) rfl) (pv 0) pe_int (fun _ _ => rfl)) (pa_cons (pe_bltn (v := .ty "str") (by rfl) T.z_str (by decide +kernel) rfl) pa_nil)))))))))
  (pss_one (ps_raise rfl (takes_of rfl rfl rfl rfl) (pmk_own PySem.F.excBase_ValueError T.x_BadThing T.m_BadThing T.k_BadThing (raises_own T.sb_BadThing T.ty_BadThing) rfl)))
  pss_nil)
  (pss_one (ps_if (PW.pt (pw_or (pt_cmpR (op_notInK (K := K) rfl) (pe_ix (ix_tupK (K := K) rfl) (pv 0) pe_int (fun _ _ => rfl)) (pe_tup (pa_cons pe_str (pa_cons pe_str pa_nil))) (by rfl)) (pw_or1 (pt_not (pt_val (pe_call (ok_is_wholeM T) (hr.mono (by decide)) (by rfl) T.m_is_whole T.F_is_whole.kp T.b_is_whole .nil pass0 (pa_cons (pe_ix (ix_tupK (K := K) rfl) (pv 0) pe_int (fun _ _ => rfl)) pa_nil)))))))
  (pss_one (ps_raise rfl (takes_of rfl rfl rfl rfl) (pmk_own PySem.F.excBase_ValueError T.x_BadThing T.m_BadThing T.k_BadThing (raises_own T.sb_BadThing T.ty_BadThing) rfl)))
  pss_nil))), ?_⟩)
  obtain ⟨v, rfl, h⟩ := h
  -- a pair of a text and a value: its kind is looked at
  have pair : ∀ (t : Addr) (s : Str) (y : V), v = .ref t → H t = some (.tup [.str s, y]) → ∀ (R : Prop), R → True := fun _ _ _ _ _ _ _ => trivial
  clear pair
  rcases h with ⟨⟨t, b, n, rfl, ht, hn⟩, k⟩ | ⟨bad, k⟩
  · walk_at "rd"
    refine ⟨.ref t, _, _, _, true, rfl, .ty "tuple", .base (.tup ht), kit_ty (by decide +kernel), ?_⟩
    walk_at "rd"
    refine ⟨t, _, rfl, .inr (.of ht), ?_⟩
    walk_at "rd"
    refine ⟨t, _, 0, _, rfl, rfl, .of ht, rfl, ?_⟩
    walk_at "rd"
    refine ⟨.str _, _, _, _, true, rfl, .ty "str", .base (.str _), kit_ty (by decide +kernel), ?_⟩
    walk_at "rd"
    refine ⟨t, _, 0, _, rfl, rfl, .of ht, rfl, ?_⟩
    walk_at "rd"
    refine ⟨by show 2 ≤ sizeLine; decide, fun q hq => ?_⟩
    refine ⟨q, _, rfl, .inr (.of upd_same), rfl, rfl, ?_⟩
    walk_at "rd"
    refine ifF (knd_in b) ?_
    have hs := same_upd (o := .tup [V.str "number", V.str "box"]) hq
    walk_at "rd"
    refine ⟨t, _, 1, _, rfl, rfl, .of (hs _ _ ht), rfl, ?_⟩
    refine ⟨.int n, rfl, .int n, ?_⟩
    walk_at "rd"
    refine ifF (by show (!decide (n.natAbs < 10 ^ 60)) = false; rw [decide_eq_true hn]; rfl) ?_
    exact k _ hs
  · cases bad with
    | str s =>
      walk_at "rd"
      refine ⟨.str s, _, _, _, false, rfl, .ty "tuple", .base (.str s), kit_ty (by decide +kernel), ?_⟩
      walk_at "rd"
      exact k _ (Same.refl _)
    | non =>
      walk_at "rd"
      refine ⟨.non, _, _, _, false, rfl, .ty "tuple", .base .non, kit_ty (by decide +kernel), ?_⟩
      walk_at "rd"
      exact k _ (Same.refl _)
    | lst e =>
      walk_at "rd"
      refine ⟨.ref _, _, _, _, false, rfl, .ty "tuple", .base (.lst e), kit_ty (by decide +kernel), ?_⟩
      walk_at "rd"
      exact k _ (Same.refl _)
    | one e hl =>
      walk_at "rd"
      refine ⟨.ref _, _, _, _, true, rfl, .ty "tuple", .base (.tup e), kit_ty (by decide +kernel), ?_⟩
      walk_at "rd"
      refine ⟨_, _, rfl, .inr (.of e), ?_⟩
      walk_at "rd"
      refine ifT ?_ (k _ (Same.refl _))
      rw [dec_int, beq_eq_false_iff_ne.mpr (by omega)]
      rfl
    | fst e =>
      walk_at "rd"
      refine ⟨.ref _, _, _, _, true, rfl, .ty "tuple", .base (.tup e), kit_ty (by decide +kernel), ?_⟩
      walk_at "rd"
      refine ⟨_, _, rfl, .inr (.of e), ?_⟩
      walk_at "rd"
      refine ⟨_, _, 0, _, rfl, rfl, .of e, rfl, ?_⟩
      walk_at "rd"
      refine ⟨.int _, _, _, _, false, rfl, .ty "str", .base (.int _), kit_ty (by decide +kernel), ?_⟩
      walk_at "rd"
      exact k _ (Same.refl _)
    | word e hs =>
      walk_at "rd"
      refine ⟨.ref _, _, _, _, true, rfl, .ty "tuple", .base (.tup e), kit_ty (by decide +kernel), ?_⟩
      walk_at "rd"
      refine ⟨_, _, rfl, .inr (.of e), ?_⟩
      walk_at "rd"
      refine ⟨_, _, 0, _, rfl, rfl, .of e, rfl, ?_⟩
      walk_at "rd"
      refine ⟨.str _, _, _, _, true, rfl, .ty "str", .base (.str _), kit_ty (by decide +kernel), ?_⟩
      walk_at "rd"
      refine ⟨_, _, 0, _, rfl, rfl, .of e, rfl, ?_⟩
      walk_at "rd"
      refine ⟨by show 2 ≤ sizeLine; decide, fun q hq => ?_⟩
      refine ⟨q, _, rfl, .inr (.of upd_same), rfl, rfl, ?_⟩
      walk_at "rd"
      refine ifT (by rw [hs]; rfl) ?_
      exact k _ (same_upd hq)
    | val e hy hw =>
      rename_i a b y
      walk_at "rd"
      refine ⟨.ref _, _, _, _, true, rfl, .ty "tuple", .base (.tup e), kit_ty (by decide +kernel), ?_⟩
      walk_at "rd"
      refine ⟨_, _, rfl, .inr (.of e), ?_⟩
      walk_at "rd"
      refine ⟨_, _, 0, _, rfl, rfl, .of e, rfl, ?_⟩
      walk_at "rd"
      refine ⟨.str _, _, _, _, true, rfl, .ty "str", .base (.str _), kit_ty (by decide +kernel), ?_⟩
      walk_at "rd"
      refine ⟨_, _, 0, _, rfl, rfl, .of e, rfl, ?_⟩
      walk_at "rd"
      refine ⟨by show 2 ≤ sizeLine; decide, fun q hq => ?_⟩
      refine ⟨q, _, rfl, .inr (.of upd_same), rfl, rfl, ?_⟩
      walk_at "rd"
      refine ifF (knd_in b) ?_
      have hs := same_upd (o := .tup [V.str "number", V.str "box"]) hq
      walk_at "rd"
      refine ⟨_, _, 1, _, rfl, rfl, .of (hs _ _ e), rfl, ?_⟩
      refine ⟨_, rfl, hy.same hs, ?_⟩
      walk_at "rd"
      refine ifT (by rw [hw]; rfl) ?_
      exact k _ hs
/-- sizes of a room -/
def sized : V → V → Bool
  | .int n, .int d => decide (1 ≤ n ∧ n ≤ 400 ∧ 0 ≤ d ∧ d ≤ 20 ∧ d < n)
  | _, _ => false
theorem sized_no {n d : Int} (h : sized (.int n) (.int d) = false) : ¬ (1 ≤ n ∧ n ≤ 400 ∧ 0 ≤ d ∧ d ≤ 20 ∧ d < n) := of_decide_eq_false h
/-! #### Room.__init__ -/
def sp_RinitX (K : PySem.W.Frag) (A : Adr) : Sp := fun vs H Q E => ∃ (p : Addr) (v u : V), vs = [.ref p, v, u] ∧ Kv H v ∧ Kv H u ∧ sized v u = false ∧ ∀ H', Same H H' → E (.ref A.c_BadSize) none H'
theorem ok_RinitX (T : Txt K mg A) : FnOk P w K mg base (L2.CX P w) 2 A.f_Rinit A.d_Rinit ["self", "size", "doors"] (sp_RinitX K A) := by
  refine T.F_Rinit.okX sc_Rinit (fun vs H Q E h => by obtain ⟨p, v, u, rfl, hv, hu, hz, k⟩ := h; rfl) (fun cdv A' outer s H vs Q E hr h => ⟨_, (pss_cons (ps_if (PW.pt (pw_or (pt_not (pt_val (pe_call (ok_is_wholeM T) (hr.mono (by decide)) (by rfl) T.m_is_whole T.F_is_whole.kp T.b_is_whole .nil pass0 (pa_cons (pv 1) pa_nil)))) (pw_or (pt_not (pt_val (pe_call (ok_is_wholeM T) (hr.mono (by decide)) (by rfl) T.m_is_whole T.F_is_whole.kp T.b_is_whole .nil pass0 (pa_cons (pv 2) pa_nil)))) (pw_or1 (pt_not (pt_chain op_leI op_leI pe_int (pv 1) (pe_globI rfl T.m_MOST_CELLS)))))))
  (pss_one (ps_raise rfl (takes_of rfl rfl rfl rfl) (pmk_own PySem.F.excBase_ValueError T.x_BadSize T.m_BadSize T.k_BadSize (raises_own T.sb_BadSize T.ty_BadSize) rfl)))
  pss_nil)
  (pss_cons (ps_if (PW.pt (pw_or (pt_not (pt_chain op_leI op_leI pe_int (pv 2) (pe_globI rfl T.m_MOST_DOORS))) (pw_or1 (pt_cmpR op_geI (pv 2) (pv 1) (nomark _)))))
  (pss_one (ps_raise rfl (takes_of rfl rfl rfl rfl) (pmk_own PySem.F.excBase_ValueError T.x_BadSize T.m_BadSize T.k_BadSize (raises_own T.sb_BadSize T.ty_BadSize) rfl)))
  pss_nil)
  (pss_cons (ps_fld (pv 0) (pe_op op_cat (pe_op op_cat (pe_lst (pa_cons (pe_call (ok_head_word T) (hr.mono (by decide)) (by rfl) T.m_head_word T.F_head_word.kp T.b_head_word .nil pass0 (pa_cons (pv 2) (pa_cons pe_bl pa_nil))) pa_nil)) (pe_op op_rep (pe_lst (pa_cons (pe_call (ok_number_word T) (hr.mono (by decide)) (by rfl) T.m_number_word T.F_number_word.kp T.b_number_word .nil pass0 (pa_cons pe_int pa_nil)) pa_nil)) (pv 2))) (pe_op op_rep (pe_lst (pa_cons pe_int pa_nil)) (pe_op op_subI (pe_op op_subI (pv 1) (pv 2)) pe_int))) rfl)
  (pss_one (ps_fld (pv 0) (pe_op op_addI pe_int (pv 2)) rfl))))), ?_⟩)
  obtain ⟨p, v, u, rfl, hv, hu, hz, k⟩ := h
  walk_at "rd"
  refine ⟨hv, ?_⟩
  walk_at "rd"
  by_cases wv : whole v = true
  · refine ifF (by rw [wv]; rfl) ?_
    walk_at "rd"
    refine ⟨hu, ?_⟩
    walk_at "rd"
    by_cases wu : whole u = true
    · refine ifF (by rw [wu]; rfl) ?_
      obtain ⟨n, rfl, hn⟩ := whole_int wv
      obtain ⟨d, rfl, hd⟩ := whole_int wu
      have no := sized_no hz
      walk_at "rd"
      by_cases c1 : 1 ≤ n
      · refine ifT (decide_eq_true c1) ?_
        walk_at "rd"
        by_cases c2 : n ≤ 400
        · refine ifF (by rw [decide_eq_true c2]; rfl) ?_
          walk_at "rd"
          by_cases c3 : 0 ≤ d
          · refine ifT (decide_eq_true c3) ?_
            walk_at "rd"
            by_cases c4 : d ≤ 20
            · refine ifF (by rw [decide_eq_true c4]; rfl) ?_
              walk_at "rd"
              refine ifT (decide_eq_true (by omega)) ?_
              exact k _ (Same.refl _)
            · refine ifT (by rw [decide_eq_false c4]; rfl) ?_
              exact k _ (Same.refl _)
          · refine ifF (decide_eq_false c3) ?_
            walk_at "rd"
            exact k _ (Same.refl _)
        · refine ifT (by rw [decide_eq_false c2]; rfl) ?_
          exact k _ (Same.refl _)
      · refine ifF (decide_eq_false c1) ?_
        walk_at "rd"
        exact k _ (Same.refl _)
    · refine ifT (by rw [show whole u = false by simpa using wu]; rfl) ?_
      exact k _ (Same.refl _)
  · refine ifT (by rw [show whole v = false by simpa using wv]; rfl) ?_
    exact k _ (Same.refl _)
/-! #### Room.need_box -/
def sp_Rneed_boxX (K : PySem.W.Frag) (A : Adr) : Sp := fun vs H Q E => ∃ (p r : Addr) (bxs : List (List Th)) (N : Nat) (v : V), vs = [.ref p, v] ∧ RoomAt A.c_Room H p r bxs N ∧ RoomOk bxs N ∧ Kv H v ∧ (∀ k, k < bxs.length → V.int (plT bxs k : Int) ≠ v) ∧ ∀ H', Same H H' → E (.ref A.c_NoBox) none H'
theorem ok_Rneed_boxX (T : Txt K mg A) : FnOk P w K mg base (L2.CX P w) 3 A.f_Rneed_box A.d_Rneed_box ["self", "place"] (sp_Rneed_boxX K A) := by
  refine T.F_Rneed_box.okX sc_Rneed_box (fun vs H Q E h => by obtain ⟨p, r, bxs, N, v, rfl, R, ok, hv, hz, k⟩ := h; rfl) (fun cdv A' outer s H vs Q E hr h => ⟨_, (pss_one (ps_if (PW.pt (pw_or (pt_not (pt_val (pe_call (ok_is_wholeM T) (hr.mono (by decide)) (by rfl) T.m_is_whole T.F_is_whole.kp T.b_is_whole .nil pass0 (pa_cons (pv 1) pa_nil)))) (pw_or1 (pt_cmpR (op_notInK (K := K) rfl) (pv 1) (pe_call (ok_heads T) (hr.mono (by decide)) (by rfl) T.m_heads T.F_heads.kp T.b_heads .nil pass0 (pa_cons (pe_fldK (K := K) rfl (pv 0) rfl) (pa_cons (pe_fldK (K := K) rfl (pv 0) rfl) pa_nil))) (by rfl)))))
  (pss_one (ps_raise rfl (takes_of rfl rfl rfl rfl) (pmk_own PySem.F.excBase_ValueError T.x_NoBox T.m_NoBox T.k_NoBox (raises_own T.sb_NoBox T.ty_NoBox) rfl)))
  pss_nil)), ?_⟩)
  obtain ⟨p, r, bxs, N, v, rfl, R, ok, hv, hz, k⟩ := h
  obtain ⟨⟨dx, eo⟩, er⟩ := id R
  walk_at "rd"
  refine ⟨hv, ?_⟩
  walk_at "rd"
  by_cases wv : whole v = true
  · refine ifF (by rw [wv]; rfl) ?_
    obtain ⟨z, rfl, hn⟩ := whole_int wv
    walk_at "rd"
    refine ⟨p, A.c_Room, dx, _, _, rfl, eo, T.clR, T.na_row, rmf_row _ _, ?_⟩
    walk_at "rd"
    refine ⟨p, A.c_Room, dx, _, _, rfl, eo, T.clR, T.na_filled, rmf_filled _ _, ?_⟩
    have esz : sizeT bxs = size (bsOf (pg bxs) bxs) := (size_bsOf _ _).symm
    rw [enc_eq] at er
    refine ⟨r, fun _ => false, bsOf (pg bxs) bxs, _, by rw [esz]; rfl, .of er, by rw [← esz]; have := ok.sz; have := ok.le; omega, fun q H1 hq s1 eq => ?_⟩
    rw [places_bsOf] at eq
    walk_at "rd"
    refine ⟨q, _, rfl, .inl (.of eq), rfl, flat_nats _, ?_⟩
    walk_at "rd"
    refine ifT (not_place hz) ?_
    exact k _ s1
  · refine ifT (by rw [show whole v = false by simpa using wv]; rfl) ?_
    exact k _ (Same.refl _)
/-- need_box, both ways -/
theorem ok_Rneed_boxM (T : Txt K mg A) : FnOk P w K mg base (L2.CX P w) 3 A.f_Rneed_box A.d_Rneed_box ["self", "place"] (fun vs H Q E => sp_Rneed_box K A vs H Q E ∨ sp_Rneed_boxX K A vs H Q E) := fn_or (fn_up (ok_Rneed_box T)) (ok_Rneed_boxX T)
/-! #### Room.word_of -/
def sp_Rword_ofX (K : PySem.W.Frag) (A : Adr) : Sp := fun vs H Q E => ∃ (p r t : Addr) (bxs : List (List Th)) (N : Nat), vs = [.ref p, .ref t] ∧ RoomAt A.c_Room H p r bxs N ∧ RoomOk bxs N ∧ ((∃ n : Int, H t = some (.tup [.str (knd false), .int n]) ∧ Q (.int (2 * n)) H) ∨
    (∃ k, k < bxs.length ∧ H t = some (.tup [.str (knd true), .int (plT bxs k)]) ∧ ∀ H', Same H H' → Q (.int (2 * (plT bxs k : Int) + 1)) H') ∨
    ∃ z : Int, H t = some (.tup [.str (knd true), .int z]) ∧ (∀ k, k < bxs.length → V.int (plT bxs k : Int) ≠ .int z) ∧ ∀ H', Same H H' → E (.ref A.c_NoBox) none H')
theorem ok_Rword_ofX (T : Txt K mg A) : FnOk P w K mg base (L2.CX P w) 4 A.f_Rword_of A.d_Rword_of ["self", "thing"] (sp_Rword_ofX K A) := by
  refine T.F_Rword_of.okX sc_Rword_of (fun vs H Q E h => by obtain ⟨p, r, t, bxs, N, rfl, R, ok, k⟩ := h; rfl) (fun cdv A' outer s H vs Q E hr h => ⟨_, (pss_cons (ps_if (pt_cmpR op_eq (pe_ix (ix_tupK (K := K) rfl) (pv 1) pe_int (fun _ _ => rfl)) pe_str (nomark _))
  (pss_one (ps_ret (pe_call (ok_number_word T) (hr.mono (by decide)) (by rfl) T.m_number_word T.F_number_word.kp T.b_number_word .nil pass0 (pa_cons (pe_ix (ix_tupK (K := K) rfl) (pv 1) pe_int (fun _ _ => rfl)) pa_nil))))
  pss_nil)
  (pss_cons (ps_expr (pe_meth (pv 0) T.clR T.me_Rneed_box (ok_Rneed_boxM T) (hr.mono (by decide)) T.b_Rneed_box .nil (passes_call (takes_of rfl rfl rfl rfl) fun _ _ _ _ z => z) (pa_cons (pe_ix (ix_tupK (K := K) rfl) (pv 1) pe_int (fun _ _ => rfl)) pa_nil)))
  (pss_one (ps_ret (pe_call (ok_link_word T) (hr.mono (by decide)) (by rfl) T.m_link_word T.F_link_word.kp T.b_link_word .nil pass0 (pa_cons (pe_ix (ix_tupK (K := K) rfl) (pv 1) pe_int (fun _ _ => rfl)) pa_nil)))))), ?_⟩)
  obtain ⟨p, r, t, bxs, N, rfl, R, ok, k⟩ := h
  obtain ⟨⟨dx, eo⟩, er⟩ := id R
  rcases k with ⟨n, ht, k⟩ | ⟨i, hi, ht, k⟩ | ⟨z, ht, hz, k⟩
  · walk_at "rd"
    refine ⟨t, _, 0, _, rfl, rfl, .of ht, rfl, ?_⟩
    walk_at "rd"
    refine ⟨t, _, 1, _, rfl, rfl, .of ht, rfl, ?_⟩
    walk_at "rd"
    exact k
  · walk_at "rd"
    refine ⟨t, _, 0, _, rfl, rfl, .of ht, rfl, ?_⟩
    walk_at "rd"
    refine ⟨p, dx, _, rfl, eo, rmf_no _ _ (by decide +kernel) (by decide +kernel), ?_⟩
    walk_at "rd"
    refine ⟨t, _, 1, _, rfl, rfl, .of ht, rfl, ?_⟩
    refine .inl ⟨p, r, bxs, N, i, rfl, R, ok, hi, fun H1 s1 => ?_⟩
    walk_at "rd"
    refine ⟨t, _, 1, _, rfl, rfl, .of (s1 _ _ ht), rfl, ?_⟩
    walk_at "rd"
    exact k _ s1
  · walk_at "rd"
    refine ⟨t, _, 0, _, rfl, rfl, .of ht, rfl, ?_⟩
    walk_at "rd"
    refine ⟨p, dx, _, rfl, eo, rmf_no _ _ (by decide +kernel) (by decide +kernel), ?_⟩
    walk_at "rd"
    refine ⟨t, _, 1, _, rfl, rfl, .of ht, rfl, ?_⟩
    exact .inr ⟨p, r, bxs, N, _, rfl, R, ok, .int z, hz, k⟩
/-! #### Room.told -/
def sp_RtoldX (K : PySem.W.Frag) (A : Adr) : Sp := fun vs H Q E => ∃ (p r : Addr) (bxs : List (List Th)) (N : Nat) (v : V), vs = [.ref p, v] ∧ RoomAt A.c_Room H p r bxs N ∧ RoomOk bxs N ∧ Kv H v ∧ (∀ k, k < bxs.length → V.int (plT bxs k : Int) ≠ v) ∧ ∀ H', Same H H' → E (.ref A.c_NoBox) none H'
theorem ok_RtoldX (T : Txt K mg A) : FnOk P w K mg base (L2.CX P w) 4 A.f_Rtold A.d_Rtold ["self", "place"] (sp_RtoldX K A) := by
  refine T.F_Rtold.okX sc_Rtold (fun vs H Q E h => by obtain ⟨p, r, bxs, N, v, rfl, R, ok, hv, hz, k⟩ := h; rfl) (fun cdv A' outer s H vs Q E hr h => ⟨_, (pss_cons (ps_expr (pe_meth (pv 0) T.clR T.me_Rneed_box (ok_Rneed_boxX T) (hr.mono (by decide)) T.b_Rneed_box .nil (passes_call (takes_of rfl rfl rfl rfl) fun _ _ _ _ z => z) (pa_cons (pv 1) pa_nil)))
  (pss_one (ps_ret (pe_lc (own := [("word", 2)]) (g := gName 2) rfl sc_Rtold.nd (pi_listK (K := K) rfl (pe_slice (sl_listK (K := K) rfl) (pe_fldK (K := K) rfl (pv 0) rfl) (po_some (pe_op op_addI (pv 1) pe_int)) (po_some (pe_op op_addI (pe_op op_addI (pv 1) pe_int) (pe_call (ok_fields_of T) (hr.mono (by decide)) (by rfl) T.m_fields_of T.F_fields_of.kp T.b_fields_of .nil pass0 (pa_cons (pe_ix (ix_listK (K := K) rfl) (pe_fldK (K := K) rfl (pv 0) rfl) (pv 1) (fun _ _ => rfl)) pa_nil)))))) (blkOk_by (own := [("word", 2)]) (N := ["self", "place", "word"]) (sc := defScope s_Rtold) (by decide +kernel)) (fun _ _ _ _ _ => pg_name (i := 2) sc_Rtold.nd rfl (.inl rfl)) (fun _ _ _ _ _ => pts_nil) (fun _ _ _ _ _ => (pe_call (ok_thing_of T) (hr.mono (by decide)) (by rfl) T.m_thing_of T.F_thing_of.kp T.b_thing_of .nil pass0 (pa_cons (pv 2) pa_nil))))))), ?_⟩)
  obtain ⟨p, r, bxs, N, v, rfl, R, ok, hv, hz, k⟩ := h
  obtain ⟨⟨dx, eo⟩, er⟩ := id R
  walk_at "rd"
  refine ⟨p, dx, _, rfl, eo, rmf_no _ _ (by decide +kernel) (by decide +kernel), ?_⟩
  walk_at "rd"
  exact ⟨p, r, bxs, N, v, rfl, R, ok, hv, hz, k⟩
/-! #### Room.put -/
def sp_RputX (K : PySem.W.Frag) (A : Adr) : Sp := fun vs H Q E => ∃ (p r : Addr) (bxs : List (List Th)) (N : Nat) (v u x : V), vs = [.ref p, v, u, x] ∧ RoomAt A.c_Room H p r bxs N ∧ RoomOk bxs N ∧ Kv H v ∧ (∀ k, k < bxs.length → V.int (plT bxs k : Int) ≠ v) ∧ ∀ H', Same H H' → E (.ref A.c_NoBox) none H'
theorem ok_RputX (T : Txt K mg A) : FnOk P w K mg base (L2.CX P w) 5 A.f_Rput A.d_Rput ["self", "place", "field", "thing"] (sp_RputX K A) := by
  refine T.F_Rput.okX sc_Rput (fun vs H Q E h => by obtain ⟨p, r, bxs, N, v, u, x, rfl, R, ok, hv, hz, k⟩ := h; rfl) (fun cdv A' outer s H vs Q E hr h => ⟨_, (pss_cons (ps_expr (pe_meth (pv 0) T.clR T.me_Rneed_box (ok_Rneed_boxX T) (hr.mono (by decide)) T.b_Rneed_box .nil (passes_call (takes_of rfl rfl rfl rfl) fun _ _ _ _ z => z) (pa_cons (pv 1) pa_nil)))
  (pss_cons (ps_if (PW.pt (pw_or (pt_not (pt_val (pe_call (ok_is_whole T) (hr.mono (by decide)) (by rfl) T.m_is_whole T.F_is_whole.kp T.b_is_whole .nil pass0 (pa_cons (pv 2) pa_nil)))) (pw_or1 (pt_not (pt_chain op_leI op_ltI pe_int (pv 2) (pe_call (ok_fields_of T) (hr.mono (by decide)) (by rfl) T.m_fields_of T.F_fields_of.kp T.b_fields_of .nil pass0 (pa_cons (pe_ix (ix_listK (K := K) rfl) (pe_fldK (K := K) rfl (pv 0) rfl) (pv 1) (fun _ _ => rfl)) pa_nil)))))))
  (pss_one ps_never)
  pss_nil)
  (pss_cons (ps_expr (pe_call (ok_need_thing T) (hr.mono (by decide)) (by rfl) T.m_need_thing T.F_need_thing.kp T.b_need_thing .nil pass0 (pa_cons (pv 3) pa_nil)))
  (pss_one (ps_asg (pe_meth (pv 0) T.clR T.me_Rword_of (ok_Rword_of T) (hr.mono (by decide)) T.b_Rword_of .nil pass0 (pa_cons (pv 3) pa_nil)) (pg_sub (pe_fldK (K := K) rfl (pv 0) rfl) (pe_op op_addI (pe_op op_addI (pv 1) pe_int) (pv 2)) set_list)))))), ?_⟩)
  obtain ⟨p, r, bxs, N, v, u, x, rfl, R, ok, hv, hz, k⟩ := h
  obtain ⟨⟨dx, eo⟩, er⟩ := id R
  walk_at "rd"
  refine ⟨p, dx, _, rfl, eo, rmf_no _ _ (by decide +kernel) (by decide +kernel), ?_⟩
  walk_at "rd"
  exact ⟨p, r, bxs, N, v, rfl, R, ok, hv, hz, k⟩
/-! #### Room.put -/
def sp_RputF (K : PySem.W.Frag) (A : Adr) : Sp := fun vs H Q E => ∃ (p r : Addr) (bxs : List (List Th)) (N i : Nat) (fs : List Th) (u x : V), vs = [.ref p, .int (plT bxs i), u, x] ∧ RoomAt A.c_Room H p r bxs N ∧ RoomOk bxs N ∧ bxs[i]? = some fs ∧ Kv H u ∧ (∀ f : Nat, f < fs.length → V.int (f : Int) ≠ u) ∧ ∀ H', Same H H' → E (.ref A.c_NoField) none H'
theorem ok_RputF (T : Txt K mg A) : FnOk P w K mg base (L2.CX P w) 5 A.f_Rput A.d_Rput ["self", "place", "field", "thing"] (sp_RputF K A) := by
  refine T.F_Rput.okX sc_Rput (fun vs H Q E h => by obtain ⟨p, r, bxs, N, i, fs, u, x, rfl, R, ok, hi, hu, hz, k⟩ := h; rfl) (fun cdv A' outer s H vs Q E hr h => ⟨_, (pss_cons (ps_expr (pe_meth (pv 0) T.clR T.me_Rneed_box (ok_Rneed_box T) (hr.mono (by decide)) T.b_Rneed_box .nil pass0 (pa_cons (pv 1) pa_nil)))
  (pss_cons (ps_if (PW.pt (pw_or (pt_not (pt_val (pe_call (ok_is_wholeM T) (hr.mono (by decide)) (by rfl) T.m_is_whole T.F_is_whole.kp T.b_is_whole .nil pass0 (pa_cons (pv 2) pa_nil)))) (pw_or1 (pt_not (pt_chain op_leI op_ltI pe_int (pv 2) (pe_call (ok_fields_of T) (hr.mono (by decide)) (by rfl) T.m_fields_of T.F_fields_of.kp T.b_fields_of .nil pass0 (pa_cons (pe_ix (ix_listK (K := K) rfl) (pe_fldK (K := K) rfl (pv 0) rfl) (pv 1) (fun _ _ => rfl)) pa_nil)))))))
  (pss_one (ps_raise rfl (takes_of rfl rfl rfl rfl) (pmk_own PySem.F.excBase_ValueError T.x_NoField T.m_NoField T.k_NoField (raises_own T.sb_NoField T.ty_NoField) rfl)))
  pss_nil)
  (pss_cons (ps_expr (pe_call (ok_need_thing T) (hr.mono (by decide)) (by rfl) T.m_need_thing T.F_need_thing.kp T.b_need_thing .nil pass0 (pa_cons (pv 3) pa_nil)))
  (pss_one (ps_asg (pe_meth (pv 0) T.clR T.me_Rword_of (ok_Rword_of T) (hr.mono (by decide)) T.b_Rword_of .nil pass0 (pa_cons (pv 3) pa_nil)) (pg_sub (pe_fldK (K := K) rfl (pv 0) rfl) (pe_op op_addI (pe_op op_addI (pv 1) pe_int) (pv 2)) set_list)))))), ?_⟩)
  obtain ⟨p, r, bxs, N, i, fs, u, x, rfl, R, ok, hi, hu, hz, k⟩ := h
  have hil := (List.getElem?_eq_some_iff.mp hi).1
  obtain ⟨⟨dx, eo⟩, er⟩ := id R
  walk_at "rd"
  refine ⟨p, dx, _, rfl, eo, rmf_no _ _ (by decide +kernel) (by decide +kernel), ?_⟩
  walk_at "rd"
  refine ⟨p, r, bxs, N, i, rfl, R, ok, hil, fun H1 s1 => ?_⟩
  have eo1 := s1 _ _ eo
  have er1 := s1 _ _ er
  walk_at "rd"
  refine ⟨hu.same s1, ?_⟩
  walk_at "rd"
  by_cases wu : whole u = true
  · refine ifF (by rw [wu]; rfl) ?_
    obtain ⟨z, rfl, hn⟩ := whole_int wu
    walk_at "rd"
    by_cases c1 : 0 ≤ z
    · refine ifT (decide_eq_true c1) ?_
      walk_at "rd"
      refine ⟨p, A.c_Room, dx, _, _, rfl, eo1, T.clR, T.na_row, rmf_row _ _, ?_⟩
      walk_at "rd"
      refine ⟨r, _, _, _, rfl, rfl, .of er1, at_int (enc_head hi), ?_⟩
      walk_at "rd"
      rw [show (4 * (fs.length : Int)) / 4 = (fs.length : Int) by omega]
      have c2 : ¬ z < (fs.length : Int) := fun c => hz z.toNat (by omega) (by rw [show ((z.toNat : Nat) : Int) = z by omega])
      refine ifT (by rw [decide_eq_false c2]; rfl) ?_
      exact k _ s1
    · refine ifF (decide_eq_false c1) ?_
      walk_at "rd"
      exact k _ s1
  · refine ifT (by rw [show whole u = false by simpa using wu]; rfl) ?_
    exact k _ s1
/-! #### Room.put -/
def sp_RputB (K : PySem.W.Frag) (A : Adr) : Sp := fun vs H Q E => ∃ (p r : Addr) (bxs : List (List Th)) (N i f : Nat) (fs : List Th) (x : V), vs = [.ref p, .int (plT bxs i), .int f, x] ∧ RoomAt A.c_Room H p r bxs N ∧ RoomOk bxs N ∧ bxs[i]? = some fs ∧ f < fs.length ∧ BadT H x ∧ ∀ H', Same H H' → E (.ref A.c_BadThing) none H'
theorem ok_RputB (T : Txt K mg A) : FnOk P w K mg base (L2.CX P w) 5 A.f_Rput A.d_Rput ["self", "place", "field", "thing"] (sp_RputB K A) := by
  refine T.F_Rput.okX sc_Rput (fun vs H Q E h => by obtain ⟨p, r, bxs, N, i, f, fs, x, rfl, R, ok, hi, hf, bad, k⟩ := h; rfl) (fun cdv A' outer s H vs Q E hr h => ⟨_, (pss_cons (ps_expr (pe_meth (pv 0) T.clR T.me_Rneed_box (ok_Rneed_box T) (hr.mono (by decide)) T.b_Rneed_box .nil pass0 (pa_cons (pv 1) pa_nil)))
  (pss_cons (ps_if (PW.pt (pw_or (pt_not (pt_val (pe_call (ok_is_whole T) (hr.mono (by decide)) (by rfl) T.m_is_whole T.F_is_whole.kp T.b_is_whole .nil pass0 (pa_cons (pv 2) pa_nil)))) (pw_or1 (pt_not (pt_chain op_leI op_ltI pe_int (pv 2) (pe_call (ok_fields_of T) (hr.mono (by decide)) (by rfl) T.m_fields_of T.F_fields_of.kp T.b_fields_of .nil pass0 (pa_cons (pe_ix (ix_listK (K := K) rfl) (pe_fldK (K := K) rfl (pv 0) rfl) (pv 1) (fun _ _ => rfl)) pa_nil)))))))
  (pss_one ps_never)
  pss_nil)
  (pss_cons (ps_expr (pe_call (ok_need_thingM T) (hr.mono (by decide)) (by rfl) T.m_need_thing T.F_need_thing.kp T.b_need_thing .nil (passes_call (takes_of rfl rfl rfl rfl) fun _ _ _ _ z => z) (pa_cons (pv 3) pa_nil)))
  (pss_one (ps_asg (pe_meth (pv 0) T.clR T.me_Rword_of (ok_Rword_of T) (hr.mono (by decide)) T.b_Rword_of .nil pass0 (pa_cons (pv 3) pa_nil)) (pg_sub (pe_fldK (K := K) rfl (pv 0) rfl) (pe_op op_addI (pe_op op_addI (pv 1) pe_int) (pv 2)) set_list)))))), ?_⟩)
  obtain ⟨p, r, bxs, N, i, f, fs, x, rfl, R, ok, hi, hf, bad, k⟩ := h
  have hil := (List.getElem?_eq_some_iff.mp hi).1
  have hsf := sizeT_field hi
  have h400 := ok.le
  have hsz := ok.sz
  obtain ⟨⟨dx, eo⟩, er⟩ := id R
  walk_at "rd"
  refine ⟨p, dx, _, rfl, eo, rmf_no _ _ (by decide +kernel) (by decide +kernel), ?_⟩
  walk_at "rd"
  refine ⟨p, r, bxs, N, i, rfl, R, ok, hil, fun H1 s1 => ?_⟩
  have eo1 := s1 _ _ eo
  have er1 := s1 _ _ er
  walk_at "rd"
  refine ifF (by rw [decide_eq_true (show ((f : Int)).natAbs < 10 ^ 60 by omega)]; rfl) ?_
  walk_at "rd"
  refine ⟨p, A.c_Room, dx, _, _, rfl, eo1, T.clR, T.na_row, rmf_row _ _, ?_⟩
  walk_at "rd"
  refine ⟨r, _, _, _, rfl, rfl, .of er1, at_int (enc_head hi), ?_⟩
  walk_at "rd"
  rw [show (4 * (fs.length : Int)) / 4 = (fs.length : Int) by omega]
  refine ifF (by rw [decide_eq_true (show (f : Int) < (fs.length : Int) by omega)]; rfl) ?_
  walk_at "rd"
  exact .inr ⟨bad.same s1, fun H2 s2 => k _ (s1.trans s2)⟩
/-! #### Room.put -/
def sp_RputN (K : PySem.W.Frag) (A : Adr) : Sp := fun vs H Q E => ∃ (p r t : Addr) (bxs : List (List Th)) (N i f : Nat) (fs : List Th) (z : Int), vs = [.ref p, .int (plT bxs i), .int f, .ref t] ∧ RoomAt A.c_Room H p r bxs N ∧ RoomOk bxs N ∧ bxs[i]? = some fs ∧ f < fs.length ∧ H t = some (.tup [.str (knd true), .int z]) ∧ z.natAbs < 10 ^ 60 ∧
    (∀ k, k < bxs.length → V.int (plT bxs k : Int) ≠ .int z) ∧ ∀ H', Same H H' → E (.ref A.c_NoBox) none H'
theorem ok_RputN (T : Txt K mg A) : FnOk P w K mg base (L2.CX P w) 5 A.f_Rput A.d_Rput ["self", "place", "field", "thing"] (sp_RputN K A) := by
  refine T.F_Rput.okX sc_Rput (fun vs H Q E h => by obtain ⟨p, r, t, bxs, N, i, f, fs, z, rfl, R, ok, hi, hf, ht, hz1, hz, k⟩ := h; rfl) (fun cdv A' outer s H vs Q E hr h => ⟨_, (pss_cons (ps_expr (pe_meth (pv 0) T.clR T.me_Rneed_box (ok_Rneed_box T) (hr.mono (by decide)) T.b_Rneed_box .nil pass0 (pa_cons (pv 1) pa_nil)))
  (pss_cons (ps_if (PW.pt (pw_or (pt_not (pt_val (pe_call (ok_is_whole T) (hr.mono (by decide)) (by rfl) T.m_is_whole T.F_is_whole.kp T.b_is_whole .nil pass0 (pa_cons (pv 2) pa_nil)))) (pw_or1 (pt_not (pt_chain op_leI op_ltI pe_int (pv 2) (pe_call (ok_fields_of T) (hr.mono (by decide)) (by rfl) T.m_fields_of T.F_fields_of.kp T.b_fields_of .nil pass0 (pa_cons (pe_ix (ix_listK (K := K) rfl) (pe_fldK (K := K) rfl (pv 0) rfl) (pv 1) (fun _ _ => rfl)) pa_nil)))))))
  (pss_one ps_never)
  pss_nil)
  (pss_cons (ps_expr (pe_call (ok_need_thingM T) (hr.mono (by decide)) (by rfl) T.m_need_thing T.F_need_thing.kp T.b_need_thing .nil (passes_call (takes_of rfl rfl rfl rfl) fun _ _ _ _ z => z) (pa_cons (pv 3) pa_nil)))
  (pss_one (ps_asg (pe_meth (pv 0) T.clR T.me_Rword_of (ok_Rword_ofX T) (hr.mono (by decide)) T.b_Rword_of .nil (passes_call (takes_of rfl rfl rfl rfl) fun _ _ _ _ z => z) (pa_cons (pv 3) pa_nil)) (pg_sub (pe_fldK (K := K) rfl (pv 0) rfl) (pe_op op_addI (pe_op op_addI (pv 1) pe_int) (pv 2)) set_list)))))), ?_⟩)
  obtain ⟨p, r, t, bxs, N, i, f, fs, z, rfl, R, ok, hi, hf, ht, hz1, hz, k⟩ := h
  have hil := (List.getElem?_eq_some_iff.mp hi).1
  have hsf := sizeT_field hi
  have h400 := ok.le
  have hsz := ok.sz
  obtain ⟨⟨dx, eo⟩, er⟩ := id R
  walk_at "rd"
  refine ⟨p, dx, _, rfl, eo, rmf_no _ _ (by decide +kernel) (by decide +kernel), ?_⟩
  walk_at "rd"
  refine ⟨p, r, bxs, N, i, rfl, R, ok, hil, fun H1 s1 => ?_⟩
  have eo1 := s1 _ _ eo
  have er1 := s1 _ _ er
  walk_at "rd"
  refine ifF (by rw [decide_eq_true (show ((f : Int)).natAbs < 10 ^ 60 by omega)]; rfl) ?_
  walk_at "rd"
  refine ⟨p, A.c_Room, dx, _, _, rfl, eo1, T.clR, T.na_row, rmf_row _ _, ?_⟩
  walk_at "rd"
  refine ⟨r, _, _, _, rfl, rfl, .of er1, at_int (enc_head hi), ?_⟩
  walk_at "rd"
  rw [show (4 * (fs.length : Int)) / 4 = (fs.length : Int) by omega]
  refine ifF (by rw [decide_eq_true (show (f : Int) < (fs.length : Int) by omega)]; rfl) ?_
  walk_at "rd"
  refine .inl ⟨⟨t, true, z, rfl, s1 _ _ ht, hz1⟩, fun H2 s2 => ?_⟩
  have s12 := s1.trans s2
  walk_at "rd"
  refine ⟨p, dx, _, rfl, s12 _ _ eo, rmf_no _ _ (by decide +kernel) (by decide +kernel), ?_⟩
  walk_at "rd"
  exact ⟨p, r, t, bxs, N, rfl, R.same s12, ok, .inr (.inr ⟨z, s12 _ _ ht, hz, fun H3 s3 => k _ (s12.trans s3)⟩)⟩
/-! #### Room.made -/
def sp_RmadeB (K : PySem.W.Frag) (A : Adr) : Sp := fun vs H Q E => ∃ (p l : Addr) (us : List V) (j : Nat) (u : V), vs = [.ref p, .ref l] ∧ H l = some (.lst us) ∧ us[j]? = some u ∧ BadT H u ∧ (∀ i v, i < j → us[i]? = some v → GoodT H v) ∧ ∀ H', Same H H' → E (.ref A.c_BadThing) none H'
theorem ok_RmadeB (T : Txt K mg A) : FnOk P w K mg base (L2.CX P w) 5 A.f_Rmade A.d_Rmade ["self", "things"] (sp_RmadeB K A) := by
  refine T.F_Rmade.okX sc_Rmade (fun vs H Q E h => by obtain ⟨p, l, us, j, u, rfl, el, hu, bad, good, k⟩ := h; rfl) (fun cdv A' outer s H vs Q E hr h => ⟨_, (pss_cons (ps_for (passes_of rfl) rfl (pi_listK (K := K) rfl (pv 1)) (pg_name (i := 2) sc_Rmade.nd rfl (.inl rfl))
  (pss_one (ps_expr (pe_call (ok_need_thingM T) (hr.mono (by decide)) (by rfl) T.m_need_thing T.F_need_thing.kp T.b_need_thing .nil (passes_call (takes_of rfl rfl rfl rfl) fun _ _ _ _ z => z) (pa_cons (pv 2) pa_nil)))))
  (pss_cons (ps_set (i := 3) sc_Rmade.nd rfl (.inl rfl) (pe_op op_cat (pe_lst (pa_cons (pe_call (ok_head_word T) (hr.mono (by decide)) (by rfl) T.m_head_word T.F_head_word.kp T.b_head_word .nil pass0 (pa_cons (pe_callB (call_lenK (K := K) rfl) (by rfl) T.z_len (by decide +kernel) (pa_cons (pv 1) pa_nil)) (pa_cons pe_bl pa_nil))) pa_nil)) (pe_lc (own := [("thing", 2)]) (g := gName 2) rfl sc_Rmade.nd (pi_listK (K := K) rfl (pv 1)) (blkOk_by (own := [("thing", 2)]) (N := ["self", "things", "thing", "words", "place"]) (sc := defScope s_Rmade) (by decide +kernel)) (fun _ _ _ _ _ => pg_name (i := 2) sc_Rmade.nd rfl (.inl rfl)) (fun _ _ _ _ _ => pts_nil) (fun _ _ _ _ _ => (pe_meth (pv 0) T.clR T.me_Rword_of (ok_Rword_of T) (hr.mono (by decide)) T.b_Rword_of .nil pass0 (pa_cons (pv 2) pa_nil))))))
  (pss_cons (ps_if (pt_cmpR op_gtI (pe_op op_addI (pe_fldK (K := K) rfl (pv 0) rfl) (pe_callB (call_lenK (K := K) rfl) (by rfl) T.z_len (by decide +kernel) (pa_cons (pv 3) pa_nil))) (pe_callB (call_lenK (K := K) rfl) (by rfl) T.z_len (by decide +kernel) (pa_cons (pe_fldK (K := K) rfl (pv 0) rfl) pa_nil)) (nomark _))
  (pss_one ps_never)
  pss_nil)
  (pss_cons (ps_set (i := 4) sc_Rmade.nd rfl (.inl rfl) (pe_fldK (K := K) rfl (pv 0) rfl))
  (pss_cons (ps_fld (pv 0) (pe_op op_cat (pe_op op_cat (pe_slice (sl_listK (K := K) rfl) (pe_fldK (K := K) rfl (pv 0) rfl) po_none (po_some (pv 4))) (pv 3)) (pe_slice (sl_listK (K := K) rfl) (pe_fldK (K := K) rfl (pv 0) rfl) (po_some (pe_op op_addI (pv 4) (pe_callB (call_lenK (K := K) rfl) (by rfl) T.z_len (by decide +kernel) (pa_cons (pv 3) pa_nil)))) po_none)) rfl)
  (pss_cons (ps_fld (pv 0) (pe_op op_addI (pv 4) (pe_callB (call_lenK (K := K) rfl) (by rfl) T.z_len (by decide +kernel) (pa_cons (pv 3) pa_nil))) rfl)
  (pss_one (ps_ret (pv 4))))))))), ?_⟩)
  obtain ⟨p, l, us, j, u, rfl, el, hu, bad, good, k⟩ := h
  walk_at "rd"
  refine ⟨⟨_, .of el⟩, for_list (K := K) (a := l) (xs := us) (fun i σ' H' => ∃ y : Option V, σ' = [some (.ref p), some (.ref l), y, none, none] ∧ Same H H' ∧ i ≤ j) ⟨none, rfl, Same.refl _, Nat.zero_le _⟩ (fun i σ' H' _ ⟨_, _, S, _⟩ => .of (S _ _ el)) ?_ ?_⟩
  · rintro i x σ' H' hx ⟨y, rfl, S, hij⟩
    walk_at "rd"
    by_cases c : i < j
    · exact .inl ⟨(good i x c hx).same S, fun H2 s2 => ⟨_, rfl, S.trans s2, c⟩⟩
    · have e : i = j := by omega
      subst e
      rw [hu] at hx
      cases Option.some.inj hx
      exact .inr ⟨bad.same S, fun H2 s2 => k _ (S.trans s2)⟩
  · rintro σ' H' ⟨y, rfl, S, hij⟩
    exact absurd (List.getElem?_eq_some_iff.mp hu).1 (by omega)
/-! #### Room.made -/
def sp_RmadeX (K : PySem.W.Frag) (A : Adr) : Sp := fun vs H Q E => ∃ (p r l : Addr) (bxs : List (List Th)) (N : Nat) (ts : List Addr) (j : Nat) (t : Addr) (z : Int), vs = [.ref p, .ref l] ∧ RoomAt A.c_Room H p r bxs N ∧ RoomOk bxs N ∧ H l = some (.lst (ts.map V.ref)) ∧ ts.length ≤ 1000 ∧ (∀ v ∈ ts, GoodT H (.ref v)) ∧
    (∀ i v, i < j → ts[i]? = some v → (∃ n : Int, H v = some (.tup [.str (knd false), .int n])) ∨ ∃ k, k < bxs.length ∧ H v = some (.tup [.str (knd true), .int (plT bxs k)])) ∧
    ts[j]? = some t ∧ H t = some (.tup [.str (knd true), .int z]) ∧ (∀ k, k < bxs.length → V.int (plT bxs k : Int) ≠ .int z) ∧ ∀ H', Same H H' → E (.ref A.c_NoBox) none H'
theorem ok_RmadeX (T : Txt K mg A) : FnOk P w K mg base (L2.CX P w) 5 A.f_Rmade A.d_Rmade ["self", "things"] (sp_RmadeX K A) := by
  refine T.F_Rmade.okX sc_Rmade (fun vs H Q E h => by obtain ⟨p, r, l, bxs, N, ts, j, t, z, rfl, R, ok, el, hl, good, ahead, hj, ht, hz, k⟩ := h; rfl) (fun cdv A' outer s H vs Q E hr h => ⟨_, (pss_cons (ps_for (passes_of rfl) rfl (pi_listK (K := K) rfl (pv 1)) (pg_name (i := 2) sc_Rmade.nd rfl (.inl rfl))
  (pss_one (ps_expr (pe_call (ok_need_thingM T) (hr.mono (by decide)) (by rfl) T.m_need_thing T.F_need_thing.kp T.b_need_thing .nil (passes_call (takes_of rfl rfl rfl rfl) fun _ _ _ _ z => z) (pa_cons (pv 2) pa_nil)))))
  (pss_cons (ps_set (i := 3) sc_Rmade.nd rfl (.inl rfl) (pe_op op_cat (pe_lst (pa_cons (pe_call (ok_head_word T) (hr.mono (by decide)) (by rfl) T.m_head_word T.F_head_word.kp T.b_head_word .nil pass0 (pa_cons (pe_callB (call_lenK (K := K) rfl) (by rfl) T.z_len (by decide +kernel) (pa_cons (pv 1) pa_nil)) (pa_cons pe_bl pa_nil))) pa_nil)) (pe_lcX (own := [("thing", 2)]) (g := gName 2) rfl sc_Rmade.nd rfl rfl (takes_of rfl rfl rfl rfl) (pi_listK (K := K) rfl (pv 1)) (blkOk_by (own := [("thing", 2)]) (N := ["self", "things", "thing", "words", "place"]) (sc := defScope s_Rmade) (by decide +kernel)) (fun _ _ _ _ _ => pg_name (i := 2) sc_Rmade.nd rfl (.inl rfl)) (fun _ _ _ _ _ => pts_nil) (fun _ _ _ _ _ _ tk => (pe_methT (pv 0) T.clR T.me_Rword_of (ok_Rword_ofX T) (hr.mono (by decide)) T.b_Rword_of (fun σ => passAt tk σ) (pa_cons (pv 2) pa_nil))))))
  (pss_cons (ps_if (pt_cmpR op_gtI (pe_op op_addI (pe_fldK (K := K) rfl (pv 0) rfl) (pe_callB (call_lenK (K := K) rfl) (by rfl) T.z_len (by decide +kernel) (pa_cons (pv 3) pa_nil))) (pe_callB (call_lenK (K := K) rfl) (by rfl) T.z_len (by decide +kernel) (pa_cons (pe_fldK (K := K) rfl (pv 0) rfl) pa_nil)) (nomark _))
  (pss_one ps_never)
  pss_nil)
  (pss_cons (ps_set (i := 4) sc_Rmade.nd rfl (.inl rfl) (pe_fldK (K := K) rfl (pv 0) rfl))
  (pss_cons (ps_fld (pv 0) (pe_op op_cat (pe_op op_cat (pe_slice (sl_listK (K := K) rfl) (pe_fldK (K := K) rfl (pv 0) rfl) po_none (po_some (pv 4))) (pv 3)) (pe_slice (sl_listK (K := K) rfl) (pe_fldK (K := K) rfl (pv 0) rfl) (po_some (pe_op op_addI (pv 4) (pe_callB (call_lenK (K := K) rfl) (by rfl) T.z_len (by decide +kernel) (pa_cons (pv 3) pa_nil)))) po_none)) rfl)
  (pss_cons (ps_fld (pv 0) (pe_op op_addI (pv 4) (pe_callB (call_lenK (K := K) rfl) (by rfl) T.z_len (by decide +kernel) (pa_cons (pv 3) pa_nil))) rfl)
  (pss_one (ps_ret (pv 4))))))))), ?_⟩)
  obtain ⟨p, r, l, bxs, N, ts, j, t, z, rfl, R, ok, el, hl, good, ahead, hj, ht, hz, k⟩ := h
  obtain ⟨⟨dx, eo⟩, er⟩ := id R
  walk_at "rd"
  refine ⟨⟨_, .of el⟩, for_list (K := K) (a := l) (xs := ts.map V.ref) (fun i σ' H' => ∃ y : Option V, σ' = [some (.ref p), some (.ref l), y, none, none] ∧ Same H H') ⟨none, rfl, Same.refl _⟩ (fun i σ' H' _ ⟨_, _, S⟩ => .of (S _ _ el)) ?_ ?_⟩
  · rintro i x σ' H' hx ⟨y, rfl, S⟩
    obtain ⟨v, hv, rfl⟩ := ref_get hx
    walk_at "rd"
    exact .inl ⟨(good v (List.mem_of_getElem? hv)).same S, fun H2 s2 => ⟨_, rfl, S.trans s2⟩⟩
  rintro σ' H1 ⟨y, rfl, S⟩
  -- the words
  walk_at "rd"
  refine ⟨l, _, rfl, .inl (.of (S _ _ el)), ?_⟩
  walk_at "rd"
  refine ⟨by show 1 ≤ sizeLine; decide, fun a1 h1 => ?_⟩
  have S1 := fun o => S.trans (same_upd (o := o) h1)
  walk_at "rd"
  refine ⟨⟨_, .of (S1 _ _ _ el)⟩, fun D hD => lc_list (K := K) (a := l) (xs := ts.map V.ref) (fun i H' => i ≤ j ∧ Same H H' ∧ ∃ ws, H' D = some (.lst ws) ∧ ws.length = i) ⟨Nat.zero_le _, (S1 _).trans (same_upd hD), [], upd_same, rfl⟩ (fun i H' _ p => .of (p.2.1 _ _ el)) (fun i x H' hx p => ?_) (fun H2 p => ?_)⟩
  · obtain ⟨p1, p2, ws, eD, lw⟩ := p
    have R2 := R.same p2
    obtain ⟨v, hv, rfl⟩ := ref_get hx
    have hi := (List.getElem?_eq_some_iff.mp hv).1
    refine ⟨rfl, ?_⟩
    walk_at "rd"
    refine ⟨_, dx, _, rfl, p2 _ _ eo, rmf_no _ _ (by decide +kernel) (by decide +kernel), ?_⟩
    walk_at "rd"
    by_cases c : i < j
    · rcases ahead i v c hv with ⟨n, ev⟩ | ⟨q, hq, ev⟩
      · exact ⟨_, r, v, bxs, N, rfl, R2, ok, .inl ⟨n, p2 _ _ ev, ws, eD, sz2001 (by omega), c, same_mut ((S1 _).free hD) p2, _, upd_same, by simp [lw]⟩⟩
      · exact ⟨_, r, v, bxs, N, rfl, R2, ok, .inr (.inl ⟨q, hq, p2 _ _ ev, fun H4 s4 => ⟨ws, s4 _ _ eD, sz2001 (by omega), c, same_mut ((S1 _).free hD) (p2.trans s4), _, upd_same, by simp [lw]⟩⟩)⟩
    · have e : i = j := by omega
      subst e
      rw [hj] at hv
      cases Option.some.inj hv
      exact ⟨_, r, t, bxs, N, rfl, R2, ok, .inr (.inr ⟨z, p2 _ _ ht, hz, fun H4 s4 => k H4 (p2.trans s4)⟩)⟩
  · have p1 := p.1
    rw [List.length_map] at p1
    exact absurd (List.getElem?_eq_some_iff.mp hj).1 (by omega)
def sp_l_class (a : Addr) : Sp := fun vs H Q _ => ∃ x : Str, vs = [.ref a, .str x] ∧ Q (.str x) H
theorem ok_l_class (T : Txt K mg A) {a : Addr} {oe : Obj} {cls : Value} {d : Option Addr} (hc : Caught A cls d) (hz : L2.Zc cls d oe) (hf : ∃ vs, oe.data = .fields vs) : FnP P w K mg base 0 A.f_l_class A.d_l_class ["_law_error", "_law_word_here"] (a, oe) (sp_l_class a) := by
  obtain ⟨r, rfl, rfl⟩ := hc
  have HC := T.ec r
  refine fnP_of T.F_l_class sc_l_class (fun vs H Q E h => by obtain ⟨x, rfl, k⟩ := h; rfl) (fun cdv A' outer s H vs Q h => ⟨_, (pss_cons (ps_set (i := 2) sc_l_class.nd rfl (.inl rfl) (pe_op op_addI (pe_op op_addI (pe_callTy call_int1 (by rfl) T.z_int (by decide +kernel) (pa_cons (pe_callB (call_isP List.mem_cons_self HC hz hf) (by rfl) T.z_isinstance (by decide +kernel) (pa_cons (pv 0) (pa_cons (pe_glob (v := .ref A.c_BadSize) rfl T.m_BadSize rfl) pa_nil))) pa_nil)) (pe_callTy call_int1 (by rfl) T.z_int (by decide +kernel) (pa_cons (pe_callB (call_isP List.mem_cons_self HC hz hf) (by rfl) T.z_isinstance (by decide +kernel) (pa_cons (pv 0) (pa_cons (pe_glob (v := .ref A.c_BadThing) rfl T.m_BadThing rfl) pa_nil))) pa_nil))) (pe_callTy call_int1 (by rfl) T.z_int (by decide +kernel) (pa_cons (pe_callB (call_isP List.mem_cons_self HC hz hf) (by rfl) T.z_isinstance (by decide +kernel) (pa_cons (pv 0) (pa_cons (pe_glob (v := .ref A.c_NoBox) rfl T.m_NoBox rfl) pa_nil))) pa_nil))))
  (pss_cons (ps_set (i := 2) sc_l_class.nd rfl (.inl rfl) (pe_op op_addI (pe_op op_addI (pv 2) (pe_callTy call_int1 (by rfl) T.z_int (by decide +kernel) (pa_cons (pe_callB (call_isP List.mem_cons_self HC hz hf) (by rfl) T.z_isinstance (by decide +kernel) (pa_cons (pv 0) (pa_cons (pe_glob (v := .ref A.c_NoField) rfl T.m_NoField rfl) pa_nil))) pa_nil))) (pe_callTy call_int1 (by rfl) T.z_int (by decide +kernel) (pa_cons (pe_callB (call_isP List.mem_cons_self HC hz hf) (by rfl) T.z_isinstance (by decide +kernel) (pa_cons (pv 0) (pa_cons (pe_glob (v := .ref A.c_NoRoom) rfl T.m_NoRoom rfl) pa_nil))) pa_nil))))
  (pss_cons (ps_if (PW.pt (pw_and (pt_cmpR op_eq (pv 2) pe_int (nomark _)) (pw_and (pt_val (pe_callB (call_isP List.mem_cons_self HC hz hf) (by rfl) T.z_isinstance (by decide +kernel) (pa_cons (pv 0) (pa_cons (pe_glob (v := .ref A.c_SlideError) rfl T.m_SlideError rfl) pa_nil)))) (pw_and1 (pt_val (pe_callB (call_isP List.mem_cons_self HC hz hf) (by rfl) T.z_isinstance (by decide +kernel) (pa_cons (pv 0) (pa_cons (pe_bltn (v := .ty "ValueError") (by rfl) T.z_ValueError (by decide +kernel) rfl) pa_nil))))))))
  (pss_one (ps_ret (pv 1)))
  pss_nil)
  (pss_one (ps_ret pe_str))))), ?_⟩)
  obtain ⟨x, rfl, k⟩ := h
  walk_at "rd"
  refine ⟨.ref _, _, _, rfl, fun u h => h, T.ki r .BadSize, ?_⟩
  refine .inr ⟨_, rfl, ?_⟩
  walk_at "rd"
  refine ⟨.ref _, _, _, rfl, fun u h => h, T.ki r .BadThing, ?_⟩
  refine .inr ⟨_, rfl, ?_⟩
  walk_at "rd"
  refine ⟨.ref _, _, _, rfl, fun u h => h, T.ki r .NoBox, ?_⟩
  refine .inr ⟨_, rfl, ?_⟩
  walk_at "rd"
  refine ⟨.ref _, _, _, rfl, fun u h => h, T.ki r .NoField, ?_⟩
  refine .inr ⟨_, rfl, ?_⟩
  walk_at "rd"
  refine ⟨.ref _, _, _, rfl, fun u h => h, T.ki r .NoRoom, ?_⟩
  refine .inr ⟨_, rfl, ?_⟩
  walk_at "rd"
  refine ifT (by cases r <;> decide) ?_
  walk_at "rd"
  refine ⟨.ref _, _, _, rfl, fun u h => h, T.ks r, ?_⟩
  walk_at "rd"
  refine ⟨.ty "ValueError", .type "ValueError", _, rfl, fun u h => h, T.kv r, ?_⟩
  walk_at "rd"
  exact k
/-- what is drawn: flat, or a list or tuple of one number -/
inductive Pv (H : Hp) : V → PyData → Prop
  | int (n : Int) : Pv H (.int n) (.int n)
  | bl (b : Bool) : Pv H (.bl b) (.bool b)
  | str (s : Str) (h : PyData.strOk s = true) : Pv H (.str s) (.str s)
  | non : Pv H .non .none
  | lst {a : Addr} {n : Int} (e : H a = some (.lst [.int n])) : Pv H (.ref a) (.list [.int n])
  | tup {a : Addr} {n : Int} (e : H a = some (.tup [.int n])) : Pv H (.ref a) (.tuple [.int n])
theorem Pv.same {H H' : Hp} {v : V} {d : PyData} (h : Pv H v d) (s : Same H H') : Pv H' v d := by
  cases h with
  | int n => exact .int n
  | bl b => exact .bl b
  | str x hx => exact .str x hx
  | non => exact .non
  | lst e => exact .lst (s _ _ e)
  | tup e => exact .tup (s _ _ e)
theorem Pv.kv {H : Hp} {v : V} {d : PyData} (h : Pv H v d) : Kv H v := by
  cases h with
  | int n => exact .int n
  | bl b => exact .bl b
  | str x hx => exact .str x
  | non => exact .non
  | lst e => exact .lst e
  | tup e => exact .tup e
theorem Pv.dp {K : PySem.W.Frag} {H : Hp} {v : V} {d : PyData} (h : Pv H v d) : Dp K H v d := by
  cases h with
  | int n => exact .int n
  | bl b => exact .bl b
  | str x hx => exact .str x
  | non => exact .non
  | lst e => exact .lst (.of e) (.cons (.int _) .nil)
  | tup e => exact .tup (.of e) (.cons (.int _) .nil)
theorem Pv.shaped {H : Hp} {v : V} {d : PyData} (h : Pv H v d) : SeqAt.shaped d = true := by
  cases h with
  | str x hx => simp [SeqAt.shaped, PyData.canLay0, PyData.depth, hx]
  | _ => simp [SeqAt.shaped, PyData.canLay0, PyData.canLayAll0, PyData.depth, PyData.depthAll]
/-! #### _law_number -/
def sp_l_number (K : PySem.W.Frag) : Sp := fun vs H Q _ => ∃ v : V, vs = [v] ∧ Kv H v ∧ Q (.bl (whole v)) H
theorem ok_l_number (T : Txt K mg A) : FnOk P w K mg base CX0 1 A.f_l_number A.d_l_number ["_law_value"] (sp_l_number K) := by
  refine T.F_l_number.ok sc_l_number (fun vs H Q E h => by obtain ⟨v, rfl, hv, h⟩ := h; rfl) (fun cdv A' outer s H vs Q E hr h => ⟨_, (pss_one (ps_ret (pe_and (pe_callB (call_isiK (K := K) rfl) (by rfl) T.z_isinstance (by decide +kernel) (pa_cons (pv 0) (pa_cons (pe_bltn (v := .ty "int") (by rfl) T.z_int (by decide +kernel) rfl) pa_nil))) (pe_and (pe_cmpR op_isnotB (pv 0) pe_bl (nomark _)) (pe_and (pe_cmpR op_isnotB (pv 0) pe_bl (nomark _)) (pe_one (pe_chain op_ltI op_ltI (pe_op op_subI pe_int (pe_op op_powI pe_int pe_int)) (pv 0) (pe_op op_powI pe_int pe_int)))))))), ?_⟩)
  obtain ⟨v, rfl, hv, h⟩ := h
  cases hv with
  | int n =>
    refine ⟨_, rfl, .int n, _, _, _, true, rfl, .ty "int", .base (.int n), kit_ty (by decide +kernel), ?_⟩
    refine ⟨_, rfl, ?_⟩
    refine iteT ?_
    refine ⟨_, rfl, true, rfl, fun a z => (nomatch z), ?_⟩
    refine ⟨_, rfl, ?_⟩
    refine iteT ?_
    refine ⟨_, rfl, false, rfl, fun a z => (nomatch z), ?_⟩
    refine ⟨_, rfl, ?_⟩
    refine iteT ?_
    walk_at "rd"
    have e1 : ((10 : Int) ^ (60 : Int).toNat) = ((10 ^ 60 : Nat) : Int) := by decide +kernel
    rw [e1]
    by_cases c1 : 0 - ((10 ^ 60 : Nat) : Int) < n
    · refine ifT (decide_eq_true c1) ?_
      walk_at "rd"
      rw [e1]
      have e2 : decide (n < ((10 ^ 60 : Nat) : Int)) = whole (.int n) := by
        show _ = decide (n.natAbs < 10 ^ 60)
        by_cases c2 : n < ((10 ^ 60 : Nat) : Int)
        · rw [decide_eq_true c2]
          exact (decide_eq_true (by omega)).symm
        · rw [decide_eq_false c2]
          exact (decide_eq_false (by omega)).symm
      rw [e2]
      exact h
    · refine ifF (decide_eq_false c1) ?_
      have e2 : whole (.int n) = false := decide_eq_false (by omega)
      rw [e2] at h
      exact h
  | bl b =>
    refine ⟨_, rfl, .bl b, _, _, _, true, rfl, .ty "int", .base (.bl b), kit_ty (by decide +kernel), ?_⟩
    refine ⟨_, rfl, ?_⟩
    refine iteT ?_
    refine ⟨_, rfl, true, rfl, fun a z => (nomatch z), ?_⟩
    refine ⟨_, rfl, ?_⟩
    cases b with
    | true => exact ifF (by decide) h
    | false =>
      refine ifT (by decide) ?_
      refine ⟨_, rfl, false, rfl, fun a z => (nomatch z), ?_⟩
      refine ⟨_, rfl, ?_⟩
      exact ifF (by decide) h
  | str s =>
    refine ⟨_, rfl, .str s, _, _, _, false, rfl, .ty "int", .base (.str s), kit_ty (by decide +kernel), ?_⟩
    walk_at "rd"
    exact h
  | non =>
    refine ⟨_, rfl, .non, _, _, _, false, rfl, .ty "int", .base .non, kit_ty (by decide +kernel), ?_⟩
    walk_at "rd"
    exact h
  | lst e =>
    refine ⟨_, rfl, .ref _, _, _, _, false, rfl, .ty "int", .base (.lst e), kit_ty (by decide +kernel), ?_⟩
    walk_at "rd"
    exact h
  | tup e =>
    refine ⟨_, rfl, .ref _, _, _, _, false, rfl, .ty "int", .base (.tup e), kit_ty (by decide +kernel), ?_⟩
    walk_at "rd"
    exact h
theorem sized_wv {v u : V} (h : whole v = false) : sized v u = false := by
  cases v with
  | int n =>
    cases u with
    | int d =>
      have := of_decide_eq_false h
      exact decide_eq_false fun z => this (by omega)
    | _ => rfl
  | _ => rfl
theorem sized_wu {v u : V} (h : whole u = false) : sized v u = false := by
  cases v with
  | int n =>
    cases u with
    | int d =>
      have := of_decide_eq_false h
      exact decide_eq_false fun z => this (by omega)
    | _ => rfl
  | _ => rfl
/-! #### _law_sized -/
def sp_l_sized (K : PySem.W.Frag) : Sp := fun vs H Q _ => ∃ v u : V, vs = [v, u] ∧ Kv H v ∧ Kv H u ∧ Q (.bl (sized v u)) H
theorem ok_l_sized (T : Txt K mg A) : FnOk P w K mg base CX0 2 A.f_l_sized A.d_l_sized ["_law_size", "_law_doors"] (sp_l_sized K) := by
  refine T.F_l_sized.ok sc_l_sized (fun vs H Q E h => by obtain ⟨v, u, rfl, hv, hu, h⟩ := h; rfl) (fun cdv A' outer s H vs Q E hr h => ⟨_, (pss_cons (ps_if (PW.pt (pw_or (pt_not (pt_val (pe_call (ok_l_number T) (hr.mono (by decide)) (by rfl) T.m__law_number T.F_l_number.kp T.b_l_number .nil pass0 (pa_cons (pv 0) pa_nil)))) (pw_or1 (pt_not (pt_val (pe_call (ok_l_number T) (hr.mono (by decide)) (by rfl) T.m__law_number T.F_l_number.kp T.b_l_number .nil pass0 (pa_cons (pv 1) pa_nil)))))))
  (pss_one (ps_ret pe_bl))
  pss_nil)
  (pss_one (ps_ret (pe_and (pe_chain op_leI op_leI pe_int (pv 0) pe_int) (pe_and (pe_chain op_leI op_leI pe_int (pv 1) pe_int) (pe_one (pe_cmpR op_ltI (pv 1) (pv 0) (nomark _)))))))), ?_⟩)
  obtain ⟨v, u, rfl, hv, hu, h⟩ := h
  walk_at "rd"
  refine ⟨hv, ?_⟩
  walk_at "rd"
  by_cases wv : whole v = true
  · refine ifF (by rw [wv]; rfl) ?_
    walk_at "rd"
    refine ⟨hu, ?_⟩
    walk_at "rd"
    by_cases wu : whole u = true
    · refine ifF (by rw [wu]; rfl) ?_
      obtain ⟨n, rfl, hn⟩ := whole_int wv
      obtain ⟨d, rfl, hd⟩ := whole_int wu
      have hs : ∀ b : Bool, (b = true ↔ (1 ≤ n ∧ n ≤ 400 ∧ 0 ≤ d ∧ d ≤ 20 ∧ d < n)) → Q (.bl b) H := fun b hb => by
        have e : sized (.int n) (.int d) = b := by
          cases b with
          | true => exact decide_eq_true (hb.mp rfl)
          | false => exact decide_eq_false fun z => Bool.false_ne_true (hb.mpr z)
        rw [← e]
        exact h
      walk_at "rd"
      by_cases c1 : 1 ≤ n
      · refine ifT (decide_eq_true c1) ?_
        walk_at "rd"
        by_cases c2 : n ≤ 400
        · refine ifT (decide_eq_true c2) ?_
          walk_at "rd"
          by_cases c3 : 0 ≤ d
          · refine ifT (decide_eq_true c3) ?_
            walk_at "rd"
            by_cases c4 : d ≤ 20
            · refine ifT (decide_eq_true c4) ?_
              walk_at "rd"
              refine hs _ ⟨fun z => ?_, fun z => decide_eq_true z.2.2.2.2⟩
              have := of_decide_eq_true z
              omega
            · exact ifF (decide_eq_false c4) (hs _ ⟨fun z => absurd z Bool.false_ne_true, fun z => absurd z.2.2.2.1 c4⟩)
          · refine ifF (decide_eq_false c3) ?_
            walk_at "rd"
            exact hs _ ⟨fun z => absurd z Bool.false_ne_true, fun z => absurd z.2.2.1 c3⟩
        · exact ifF (decide_eq_false c2) (hs _ ⟨fun z => absurd z Bool.false_ne_true, fun z => absurd z.2.1 c2⟩)
      · refine ifF (decide_eq_false c1) ?_
        walk_at "rd"
        exact hs _ ⟨fun z => absurd z Bool.false_ne_true, fun z => absurd z.1 c1⟩
    · have wu2 : whole u = false := by simpa using wu
      refine ifT (by rw [wu2]; rfl) ?_
      walk_at "rd"
      rw [sized_wu wu2] at h
      exact h
  · have wv2 : whole v = false := by simpa using wv
    refine ifT (by rw [wv2]; rfl) ?_
    walk_at "rd"
    rw [sized_wv wv2] at h
    exact h
theorem ok_RinitM (T : Txt K mg A) : FnOk P w K mg base (L2.CX P w) 2 A.f_Rinit A.d_Rinit ["self", "size", "doors"] (fun vs H Q E => sp_Rinit K A vs H Q E ∨ sp_RinitX K A vs H Q E) := fn_or (fn_up (ok_Rinit T)) (ok_RinitX T)
/-! #### _law_new -/
def sp_l_new (K : PySem.W.Frag) : Sp := fun vs H Q _ => ∃ v u : V, vs = [v, u] ∧ Kv H v ∧ Kv H u ∧ ∀ H', Same H H' → Q (.str (if sized v u = true then "made" else "size")) H'
theorem ok_l_new (T : Txt K mg A) : FnOk P w K mg base CX0 4 A.f_l_new A.d_l_new ["_law_size", "_law_doors"] (sp_l_new K) := by
  refine T.F_l_new.ok sc_l_new (fun vs H Q E h => by obtain ⟨v, u, rfl, hv, hu, k⟩ := h; rfl) (fun cdv A' outer s H vs Q E hr h => ⟨_, (pss_cons (ps_try_manyAs (i := 4) rfl rfl sc_l_new.nd rfl rfl takes0 (fun W pn xe tk _ => (pss_one (ps_set (i := 2) sc_l_new.nd rfl (.inl rfl) (pe_makeT T.mkR (ok_RinitM T) (hr.mono (by decide)) (by rfl) T.m_Room T.b_Rinit (fun σ => passAt tk σ) (pa_cons (pv 0) (pa_cons (pv 1) pa_nil))))))
  (.cons ⟨rfl, by decide, .inl T.m_BadSize⟩ (fun a oe cls d pn hz hf => pss_when fun hc : Caught A cls d => (pss_one (ps_ret (pe_callP (ok_l_class T hc hz hf) ⟨(hr.mono (Nat.zero_le _)).dp, (hr.mono (Nat.zero_le _)).un⟩ List.mem_cons_self (by rfl) T.m__law_class T.F_l_class.kp T.b_l_class (pa_cons (pv 4) (pa_cons pe_str pa_nil))))))
  .nil))
  (pss_cons (ps_set (i := 3) sc_l_new.nd rfl (.inl rfl) (pe_op op_cat (pe_lst (pa_cons (pe_op op_mulI pe_int (pv 1)) pa_nil)) (pe_op op_rep (pe_lst (pa_cons pe_int pa_nil)) (pe_op op_subI (pv 0) pe_int))))
  (pss_one (ps_ret (pe_op op_repS pe_str (pe_callTy call_int1 (by rfl) T.z_int (by decide +kernel) (pa_cons (pe_and (pe_call (ok_l_words_are T) (hr.mono (by decide)) (by rfl) T.m__law_words_are T.F_l_words_are.kp T.b_l_words_are .nil pass0 (pa_cons (pe_meth0 (pv 2) T.clR T.me_Rcells (ok_Rcells T) (hr.mono (by decide)) T.b_Rcells .nil pass0) (pa_cons (pv 3) pa_nil))) (pe_one (pe_cmpR op_eq (pe_meth0 (pv 2) T.clR T.me_Rused (ok_Rused T) (hr.mono (by decide)) T.b_Rused .nil pass0) (pe_op op_addI pe_int (pv 1)) (nomark _)))) pa_nil))))))), ?_⟩)
  obtain ⟨v, u, rfl, hv, hu, k⟩ := h
  walk_at "rd"
  intro p dx hp hdx hne
  have s0 : Same H (upd (upd H dx (.own p)) p (.ins A.c_Room dx [])) := fun b o e => by
    rw [upd_ne (ne_of_none e hp), upd_ne (ne_of_none e hdx)]
    exact e
  by_cases hz : sized v u = true
  · rw [if_pos hz] at k
    obtain ⟨n, d, rfl, rfl, h1, h2, h3⟩ : ∃ n d : Nat, v = .int (n : Int) ∧ u = .int (d : Int) ∧ n ≤ 400 ∧ d ≤ 20 ∧ d < n := by
      cases v with
      | int n =>
        cases u with
        | int d =>
          have z := of_decide_eq_true hz
          exact ⟨n.toNat, d.toNat, by rw [show ((n.toNat : Nat) : Int) = n by omega], by rw [show ((d.toNat : Nat) : Int) = d by omega], by omega, by omega, by omega⟩
        | _ => exact absurd hz Bool.false_ne_true
      | _ => exact absurd hz Bool.false_ne_true
    refine .inl ⟨p, dx, n, d, rfl, upd_same, h2, h3, h1, fun r H2 hr2 R bt => ?_⟩
    have S2 : Same H H2 := fun b o e => bt b o (s0 _ _ e) (ne_of_none e hp)
    obtain ⟨⟨dx2, eo⟩, er⟩ := id R
    walk_at "rd"
    refine ⟨by show 1 ≤ sizeLine; decide, fun a1 g1 => ?_⟩
    walk_at "rd"
    refine ⟨by show 1 ≤ sizeLine; decide, fun a2 g2 => ?_⟩
    walk_at "rd"
    rw [show (n : Int) - 1 = ((n - 1 : Nat) : Int) by omega]
    refine ⟨a2, _, _, rfl, rfl, upd_same, by omega, by omega, sz2000 (by rw [Int.toNat_natCast]; show 1 * _ ≤ _; omega), fun a3 g3 => ?_⟩
    rw [Int.toNat_natCast, List.flatten_replicate_singleton]
    have n12 : a1 ≠ a2 := fun z => by rw [← z, upd_same] at g2; cases g2
    have n13 : a1 ≠ a3 := fun z => by rw [← z, upd_ne n12, upd_same] at g3; cases g3
    refine ⟨a1, a3, _, _, rfl, rfl, by rw [upd_ne n13, upd_ne n12, upd_same], upd_same, sz2000 (by rw [List.length_replicate]; show 1 + _ ≤ _; omega), fun a4 g4 => ?_⟩
    have S4 := (same_upd (o := .lst [V.int (4 * (d : Int))]) g1).trans ((same_upd (o := .lst [V.int 0]) g2).trans ((same_upd (o := .lst (List.replicate (n - 1) (V.int 0))) g3).trans (same_upd (o := .lst ([V.int (4 * (d : Int))] ++ List.replicate (n - 1) (V.int 0))) g4)))
    walk_at "rd"
    refine ⟨p, dx2, _, rfl, S4 _ _ eo, rmf_no _ _ (by decide +kernel) (by decide +kernel), ?_⟩
    walk_at "rd"
    refine ⟨p, r, _, n, rfl, R.same S4, fun q hq => ?_⟩
    have s5 := same_upd (o := .lst ((enc [List.replicate d (Th.num 0)] n).map V.int)) hq
    have ee : [V.int (4 * (d : Int))] ++ List.replicate (n - 1) (V.int 0) = (enc [List.replicate d (Th.num 0)] n).map V.int := by
      have er : List.replicate (n - 1) (V.int 0) = List.replicate d (V.int 0) ++ List.replicate (n - d - 1) (V.int 0) := by
        rw [List.replicate_append_replicate, show d + (n - d - 1) = n - 1 by omega]
      rw [enc_new h3, List.map_append, List.map_cons, List.map_replicate, List.map_replicate, er]
      rfl
    walk_at "rd"
    refine ⟨q, a4, enc [List.replicate d (Th.num 0)] n, rfl, .of upd_same, .of (by rw [s5 _ _ upd_same, ee]), by rw [enc_len (by show 1 + (List.replicate d (Th.num 0)).length + 0 ≤ n; rw [List.length_replicate]; omega)]; omega, fun H6 s6 => ?_⟩
    have S6 := S4.trans (s5.trans s6)
    walk_at "rd"
    refine ⟨p, dx2, _, rfl, S6 _ _ eo, rmf_no _ _ (by decide +kernel) (by decide +kernel), ?_⟩
    walk_at "rd"
    refine ⟨p, r, _, n, rfl, R.same S6, ?_⟩
    walk_at "rd"
    refine .inr ⟨_, rfl, ?_⟩
    refine ⟨_, true, rfl, ?_, ?_⟩
    · have e : sizeT [List.replicate d (Th.num 0)] = 1 + d := by
        show 1 + (List.replicate d (Th.num 0)).length + 0 = 1 + d
        rw [List.length_replicate]
        rfl
      rw [e, decide_eq_true (show V.int ((1 + d : Nat) : Int) = V.int (1 + (d : Int)) by rw [show ((1 + d : Nat) : Int) = 1 + (d : Int) by omega])]
    · rw [if_pos rfl]
      exact k _ (S2.trans S6)
  · have hz2 : sized v u = false := by simpa using hz
    rw [if_neg hz] at k
    refine .inr ⟨p, v, u, rfl, hv.same s0, hu.same s0, hz2, fun H1 s1 => ?_⟩
    refine ⟨true, T.xm .BadSize .BadSize, fun _ a ha => ?_, fun q => nomatch q⟩
    refine ⟨⟨.BadSize, rfl, rfl⟩, ?_⟩
    walk_at "rd"
    exact k _ (s0.trans s1)
/-! data that may be shown -/
structure FineR (n k : Nat) (d : PyData) : Prop where
  sh : d.showable = true
  dc : d.hasDict = false
  lf : d.leavesShort 64 = true
  wt : d.weight ≤ n
  dp : d.depth ≤ k
  ly : d.canLay0 = true
  ev : PyData.eqv d d = true
structure FineRs (n k : Nat) (ds : List PyData) : Prop where
  sh : PyData.showableAll ds = true
  dc : PyData.hasDictAll ds = false
  lf : PyData.leavesShortAll 64 ds = true
  wt : PyData.weightAll ds ≤ (n + 1) * ds.length
  dp : PyData.depthAll ds ≤ k
  ly : PyData.canLayAll0 ds = true
  ev : PyData.eqvAll ds ds = true
theorem FineR.mono {n n' k k' : Nat} {d : PyData} (h : FineR n k d) (a : n ≤ n') (b : k ≤ k') : FineR n' k' d := ⟨h.sh, h.dc, h.lf, Nat.le_trans h.wt a, Nat.le_trans h.dp b, h.ly, h.ev⟩
theorem frs_nil {n k : Nat} : FineRs n k [] := ⟨by simp [PyData.showableAll], by simp [PyData.hasDictAll], by simp [PyData.leavesShortAll], by simp [PyData.weightAll], by simp [PyData.depthAll], by simp [PyData.canLayAll0], by simp [PyData.eqvAll]⟩
theorem frs_cons {n k : Nat} {d : PyData} {ds : List PyData} (h : FineR n k d) (r : FineRs n k ds) : FineRs n k (d :: ds) := by
  refine ⟨by simp [PyData.showableAll, h.sh, r.sh], by simp [PyData.hasDictAll, h.dc, r.dc], by simp [PyData.leavesShortAll, h.lf, r.lf], ?_, ?_, by simp [PyData.canLayAll0, h.ly, r.ly], by simp [PyData.eqvAll, h.ev, r.ev]⟩
  · have h1 := h.wt
    have h2 := r.wt
    simp only [PyData.weightAll, List.length_cons, Nat.mul_add, Nat.mul_one]
    omega
  · have h1 := h.dp
    have h2 := r.dp
    simp only [PyData.depthAll]
    omega
theorem frs_of {n k : Nat} : ∀ {ds : List PyData}, (∀ d ∈ ds, FineR n k d) → FineRs n k ds
  | [], _ => frs_nil
  | d :: ds, h => frs_cons (h d List.mem_cons_self) (frs_of fun x hx => h x (List.mem_cons_of_mem _ hx))
theorem fr_of_tup {n k : Nat} {ds : List PyData} (h : FineRs n k ds) : FineR ((n + 1) * ds.length) (k + 1) (.tuple ds) :=
  ⟨by simp only [PyData.showable]; exact h.sh, by simp only [PyData.hasDict]; exact h.dc, by simp only [PyData.leavesShort]; exact h.lf, by simp only [PyData.weight]; exact h.wt, by have := h.dp; simp only [PyData.depth]; omega, by simp only [PyData.canLay0]; exact h.ly, by simp only [PyData.eqv]; exact h.ev⟩
theorem fr_of_lst {n k : Nat} {ds : List PyData} (h : FineRs n k ds) : FineR ((n + 1) * ds.length) (k + 1) (.list ds) :=
  ⟨by simp only [PyData.showable]; exact h.sh, by simp only [PyData.hasDict]; exact h.dc, by simp only [PyData.leavesShort]; exact h.lf, by simp only [PyData.weight]; exact h.wt, by have := h.dp; simp only [PyData.depth]; omega, by simp only [PyData.canLay0]; exact h.ly, by simp only [PyData.eqv]; exact h.ev⟩
theorem fr_int {i : Int} (h : i.natAbs < 10 ^ 60) : FineR 600 0 (.int i) := by
  have hl : i.natAbs.log2 < 200 := by
    by_cases z : i.natAbs = 0
    · rw [z]
      decide
    · exact (Nat.log2_lt z).mpr (Nat.lt_of_lt_of_le h (by decide))
  refine ⟨?_, by simp [PyData.hasDict], ?_, ?_, by simp [PyData.depth], by simp [PyData.canLay0], by simp [PyData.eqv]⟩
  · simp only [PyData.showable]
    exact decide_eq_true (by omega)
  · simp only [PyData.leavesShort]
    refine decide_eq_true ?_
    have e := int_text_length_le10 (k := 60) (by decide) h
    show (Str.ofString (toString i)).length ≤ 64
    rw [PySem.ofString_length]
    omega
  · simp only [PyData.weight]
    split <;> omega
theorem fr_str {s : Str} (h : PyData.leavesShort 64 (.str s) = true) (w : PyData.weight (.str s) ≤ 600 ∧ PyData.strOk s = true) : FineR 600 0 (.str s) :=
  ⟨by simp [PyData.showable], by simp [PyData.hasDict], h, w.1, by simp [PyData.depth], by simp [PyData.canLay0, w.2], by simp [PyData.eqv]⟩
theorem fr_bl {b : Bool} : FineR 600 0 (.bool b) := ⟨by simp [PyData.showable], by simp [PyData.hasDict], by simp [PyData.leavesShort], by simp [PyData.weight], by simp [PyData.depth], by simp [PyData.canLay0], by simp [PyData.eqv]⟩
theorem fr_non : FineR 600 0 .none := ⟨by simp [PyData.showable], by simp [PyData.hasDict], by simp [PyData.leavesShort], by simp [PyData.weight], by simp [PyData.depth], by simp [PyData.canLay0], by simp [PyData.eqv]⟩
theorem fr_leaf {d : PyData} (h : FineR 600 0 d) : FineR 3000 3 d := h.mono (by decide) (by decide)
theorem fr_up {d : PyData} (h : FineR 600 0 d) : FineR 700 1 d := h.mono (by decide) (by decide)
theorem fr_l5 : FineR 700 1 (.list [.int 5]) := (fr_of_lst (frs_cons (fr_int (i := 5) (by decide)) frs_nil)).mono (by decide) (by decide)
theorem fr_t3 : FineR 700 1 (.tuple [.int 3]) := (fr_of_tup (frs_cons (fr_int (i := 3) (by decide)) frs_nil)).mono (by decide) (by decide)
theorem fr_tup {ds : List PyData} (h : FineRs 700 1 ds) (hl : ds.length ≤ 3) : FineR 3000 3 (.tuple ds) := (fr_of_tup h).mono (by have := Nat.mul_le_mul_left (700 + 1) hl; omega) (by decide)
theorem fr_lst {ds : List PyData} (h : FineRs 700 1 ds) (hl : ds.length ≤ 3) : FineR 3000 3 (.list ds) := (fr_of_lst h).mono (by have := Nat.mul_le_mul_left (700 + 1) hl; omega) (by decide)
def DatAt (H : Hp) (v : V) : Prop := ∃ d, (∀ K : PySem.W.Frag, Dp K H v d) ∧ FineR 3000 3 d
/-- the room's boxes, ahead of the calls -/
def bx0 : List (List Th) := [[.num 0, .num 0], [.num 5, .box 0]]
theorem bx0_pl : ∀ k, k < bx0.length → plT bx0 k = 0 ∨ plT bx0 k = 3 := fun k hk => by
  match k, hk with
  | 0, _ => exact .inl rfl
  | 1, _ => exact .inr rfl
  | k + 2, h => exact absurd h (by show ¬ k + 2 < 2; omega)
theorem not_pl {z : Int} (h0 : z ≠ 0) (h3 : z ≠ 3) : ∀ k, k < bx0.length → V.int (plT bx0 k : Int) ≠ .int z := fun k hk e => by
  have e := V.int.inj e
  rcases bx0_pl k hk with q | q
  · rw [q] at e
    exact h0 e.symm
  · rw [q] at e
    exact h3 e.symm
def good5 : Nat → Th
  | 0 => .num 5
  | 1 => .num (10 ^ 60 - 1)
  | 2 => .num (1 - 10 ^ 60)
  | 3 => .box 0
  | _ => .box 3
/-- the i-th of the twenty-five -/
def PickAt (H : Hp) (v : V) (i : Nat) : Prop := (i < 5 ∧ ∃ t, v = .ref t ∧ H t = some (.tup (thV (good5 i)))) ∨
  (5 ≤ i ∧ i ≤ 8 ∧ ∃ (t : Addr) (z : Int), v = .ref t ∧ H t = some (.tup [.str (knd true), .int z]) ∧ z.natAbs < 10 ^ 60 ∧ ∀ k, k < bx0.length → V.int (plT bx0 k : Int) ≠ .int z) ∨ (9 ≤ i ∧ BadT H v)

/-- what is laid in H' and not in H -/
def hidH (H H' : Hp) : Hp := fun b => match H b with
  | none => H' b
  | some _ => none
theorem hid_at {H H' : Hp} {b : Addr} {o : HO} (h : H b = none) (e : H' b = some o) : hidH H H' b = some o := by
  unfold hidH
  rw [h]
  exact e
theorem hid_none {H H' : Hp} {b : Addr} {o : HO} (h : H b = some o) : hidH H H' b = none := by
  unfold hidH
  rw [h]
theorem hid_same (H H' : Hp) : Same (hidH H H') H' := fun b o e => by
  unfold hidH at e
  split at e
  · exact e
  · cases e
/-! #### _law_things -/
def sp_l_things (K : PySem.W.Frag) : Sp := fun vs H Q _ => vs = [] ∧ ∀ (q : Addr) (H' B : Hp) (L : List V), Same H H' → Same B H' → (∀ b o, H b = some o → B b = none) → H' q = some (.lst L) → L.length = 25 → (∀ (i : Nat) (v : V), L[i]? = some v → PickAt B v i ∧ DatAt B v) → Q (.ref q) H'
theorem ok_l_things (T : Txt K mg A) : FnOk P w K mg base CX0 1 A.f_l_things A.d_l_things [] (sp_l_things K) := by
  refine T.F_l_things.ok sc_l_things (fun vs H Q E h => by obtain ⟨rfl, k⟩ := h; rfl) (fun cdv A' outer s H vs Q E hr h => ⟨_, (pss_cons (ps_set (i := 0) sc_l_things.nd rfl (.inl rfl) (pe_lst (pa_cons (pe_tup (pa_cons pe_str (pa_cons pe_int pa_nil))) (pa_cons (pe_tup (pa_cons pe_str (pa_cons (pe_op op_subI (pe_op op_powI pe_int pe_int) pe_int) pa_nil))) (pa_cons (pe_tup (pa_cons pe_str (pa_cons (pe_op op_subI pe_int (pe_op op_powI pe_int pe_int)) pa_nil))) (pa_cons (pe_tup (pa_cons pe_str (pa_cons pe_int pa_nil))) (pa_cons (pe_tup (pa_cons pe_str (pa_cons pe_int pa_nil))) (pa_cons (pe_tup (pa_cons pe_str (pa_cons pe_int pa_nil))) pa_nil))))))))
  (pss_cons (ps_set (i := 0) sc_l_things.nd rfl (.inl rfl) (pe_op op_cat (pv 0) (pe_lst (pa_cons (pe_tup (pa_cons pe_str (pa_cons pe_int pa_nil))) (pa_cons (pe_tup (pa_cons pe_str (pa_cons (pe_un un_neg pe_int) pa_nil))) (pa_cons (pe_tup (pa_cons pe_str (pa_cons pe_int pa_nil))) (pa_cons (pe_tup (pa_cons pe_str (pa_cons pe_bl pa_nil))) (pa_cons (pe_tup (pa_cons pe_str (pa_cons pe_str pa_nil))) (pa_cons (pe_tup (pa_cons pe_str (pa_cons pe_non pa_nil))) pa_nil)))))))))
  (pss_cons (ps_set (i := 0) sc_l_things.nd rfl (.inl rfl) (pe_op op_cat (pv 0) (pe_lst (pa_cons (pe_tup (pa_cons pe_str (pa_cons pe_bl pa_nil))) (pa_cons (pe_tup (pa_cons pe_str pa_nil)) (pa_cons (pe_lst (pa_cons pe_str (pa_cons pe_int pa_nil))) (pa_cons pe_str (pa_cons (pe_tup (pa_cons pe_str (pa_cons pe_int pa_nil))) (pa_cons (pe_tup (pa_cons pe_int (pa_cons pe_int pa_nil))) (pa_cons pe_non pa_nil))))))))))
  (pss_one (ps_ret (pe_op op_cat (pv 0) (pe_lst (pa_cons (pe_tup (pa_cons pe_str (pa_cons pe_int (pa_cons pe_int pa_nil)))) (pa_cons (pe_tup (pa_cons pe_str (pa_cons pe_int (pa_cons pe_int pa_nil)))) (pa_cons (pe_tup (pa_cons pe_str (pa_cons pe_non pa_nil))) (pa_cons (pe_tup (pa_cons pe_str (pa_cons pe_str pa_nil))) (pa_cons (pe_tup (pa_cons pe_str (pa_cons (pe_lst (pa_cons pe_int pa_nil)) pa_nil))) (pa_cons (pe_tup (pa_cons pe_str (pa_cons (pe_tup (pa_cons pe_int pa_nil)) pa_nil))) pa_nil))))))))))))), ?_⟩)
  obtain ⟨rfl, k⟩ := h
  walk_at "rd"
  refine ⟨by show 2 ≤ sizeLine; decide, fun t0 nt0 => ?_⟩
  have et0 : (upd H t0 (.tup [V.str "number", V.int 5])) t0 = some (.tup [V.str "number", V.int 5]) := upd_same
  have s1 := same_upd (o := .tup [V.str "number", V.int 5]) nt0
  revert et0 s1
  generalize upd H t0 (.tup [V.str "number", V.int 5]) = G1
  intro et0 s1
  walk_at "rd"
  refine ⟨by show 2 ≤ sizeLine; decide, fun t1 nt1 => ?_⟩
  have et1 : (upd G1 t1 (.tup [V.str "number", V.int ((10 : Int) ^ (60 : Int).toNat - 1)])) t1 = some (.tup [V.str "number", V.int ((10 : Int) ^ (60 : Int).toNat - 1)]) := upd_same
  have s2 := same_upd (o := .tup [V.str "number", V.int ((10 : Int) ^ (60 : Int).toNat - 1)]) nt1
  revert et1 s2
  generalize upd G1 t1 (.tup [V.str "number", V.int ((10 : Int) ^ (60 : Int).toNat - 1)]) = G2
  intro et1 s2
  walk_at "rd"
  refine ⟨by show 2 ≤ sizeLine; decide, fun t2 nt2 => ?_⟩
  have et2 : (upd G2 t2 (.tup [V.str "number", V.int (1 - (10 : Int) ^ (60 : Int).toNat)])) t2 = some (.tup [V.str "number", V.int (1 - (10 : Int) ^ (60 : Int).toNat)]) := upd_same
  have s3 := same_upd (o := .tup [V.str "number", V.int (1 - (10 : Int) ^ (60 : Int).toNat)]) nt2
  revert et2 s3
  generalize upd G2 t2 (.tup [V.str "number", V.int (1 - (10 : Int) ^ (60 : Int).toNat)]) = G3
  intro et2 s3
  walk_at "rd"
  refine ⟨by show 2 ≤ sizeLine; decide, fun t3 nt3 => ?_⟩
  have et3 : (upd G3 t3 (.tup [V.str "box", V.int 0])) t3 = some (.tup [V.str "box", V.int 0]) := upd_same
  have s4 := same_upd (o := .tup [V.str "box", V.int 0]) nt3
  revert et3 s4
  generalize upd G3 t3 (.tup [V.str "box", V.int 0]) = G4
  intro et3 s4
  walk_at "rd"
  refine ⟨by show 2 ≤ sizeLine; decide, fun t4 nt4 => ?_⟩
  have et4 : (upd G4 t4 (.tup [V.str "box", V.int 3])) t4 = some (.tup [V.str "box", V.int 3]) := upd_same
  have s5 := same_upd (o := .tup [V.str "box", V.int 3]) nt4
  revert et4 s5
  generalize upd G4 t4 (.tup [V.str "box", V.int 3]) = G5
  intro et4 s5
  walk_at "rd"
  refine ⟨by show 2 ≤ sizeLine; decide, fun t5 nt5 => ?_⟩
  have et5 : (upd G5 t5 (.tup [V.str "box", V.int 1])) t5 = some (.tup [V.str "box", V.int 1]) := upd_same
  have s6 := same_upd (o := .tup [V.str "box", V.int 1]) nt5
  revert et5 s6
  generalize upd G5 t5 (.tup [V.str "box", V.int 1]) = G6
  intro et5 s6
  walk_at "rd"
  refine ⟨by show 6 ≤ sizeLine; decide, fun l0 nl0 => ?_⟩
  have el0 : (upd G6 l0 (.lst [V.ref t0, V.ref t1, V.ref t2, V.ref t3, V.ref t4, V.ref t5])) l0 = some (.lst [V.ref t0, V.ref t1, V.ref t2, V.ref t3, V.ref t4, V.ref t5]) := upd_same
  have s7 := same_upd (o := .lst [V.ref t0, V.ref t1, V.ref t2, V.ref t3, V.ref t4, V.ref t5]) nl0
  revert el0 s7
  generalize upd G6 l0 (.lst [V.ref t0, V.ref t1, V.ref t2, V.ref t3, V.ref t4, V.ref t5]) = G7
  intro el0 s7
  walk_at "rd"
  refine ⟨by show 2 ≤ sizeLine; decide, fun t6 nt6 => ?_⟩
  have et6 : (upd G7 t6 (.tup [V.str "box", V.int 6])) t6 = some (.tup [V.str "box", V.int 6]) := upd_same
  have s8 := same_upd (o := .tup [V.str "box", V.int 6]) nt6
  revert et6 s8
  generalize upd G7 t6 (.tup [V.str "box", V.int 6]) = G8
  intro et6 s8
  walk_at "rd"
  refine ⟨by show 2 ≤ sizeLine; decide, fun t7 nt7 => ?_⟩
  have et7 : (upd G8 t7 (.tup [V.str "box", V.int (-1)])) t7 = some (.tup [V.str "box", V.int (-1)]) := upd_same
  have s9 := same_upd (o := .tup [V.str "box", V.int (-1)]) nt7
  revert et7 s9
  generalize upd G8 t7 (.tup [V.str "box", V.int (-1)]) = G9
  intro et7 s9
  walk_at "rd"
  refine ⟨by show 2 ≤ sizeLine; decide, fun t8 nt8 => ?_⟩
  have et8 : (upd G9 t8 (.tup [V.str "box", V.int 12])) t8 = some (.tup [V.str "box", V.int 12]) := upd_same
  have s10 := same_upd (o := .tup [V.str "box", V.int 12]) nt8
  revert et8 s10
  generalize upd G9 t8 (.tup [V.str "box", V.int 12]) = G10
  intro et8 s10
  walk_at "rd"
  refine ⟨by show 2 ≤ sizeLine; decide, fun t9 nt9 => ?_⟩
  have et9 : (upd G10 t9 (.tup [V.str "number", V.bl true])) t9 = some (.tup [V.str "number", V.bl true]) := upd_same
  have s11 := same_upd (o := .tup [V.str "number", V.bl true]) nt9
  revert et9 s11
  generalize upd G10 t9 (.tup [V.str "number", V.bl true]) = G11
  intro et9 s11
  walk_at "rd"
  refine ⟨by show 2 ≤ sizeLine; decide, fun t10 nt10 => ?_⟩
  have et10 : (upd G11 t10 (.tup [V.str "number", V.str "5"])) t10 = some (.tup [V.str "number", V.str "5"]) := upd_same
  have s12 := same_upd (o := .tup [V.str "number", V.str "5"]) nt10
  revert et10 s12
  generalize upd G11 t10 (.tup [V.str "number", V.str "5"]) = G12
  intro et10 s12
  walk_at "rd"
  refine ⟨by show 2 ≤ sizeLine; decide, fun t11 nt11 => ?_⟩
  have et11 : (upd G12 t11 (.tup [V.str "number", V.non])) t11 = some (.tup [V.str "number", V.non]) := upd_same
  have s13 := same_upd (o := .tup [V.str "number", V.non]) nt11
  revert et11 s13
  generalize upd G12 t11 (.tup [V.str "number", V.non]) = G13
  intro et11 s13
  walk_at "rd"
  refine ⟨by show 6 ≤ sizeLine; decide, fun l1 nl1 => ?_⟩
  have el1 : (upd G13 l1 (.lst [V.ref t6, V.ref t7, V.ref t8, V.ref t9, V.ref t10, V.ref t11])) l1 = some (.lst [V.ref t6, V.ref t7, V.ref t8, V.ref t9, V.ref t10, V.ref t11]) := upd_same
  have s14 := same_upd (o := .lst [V.ref t6, V.ref t7, V.ref t8, V.ref t9, V.ref t10, V.ref t11]) nl1
  revert el1 s14
  generalize upd G13 l1 (.lst [V.ref t6, V.ref t7, V.ref t8, V.ref t9, V.ref t10, V.ref t11]) = G14
  intro el1 s14
  refine ⟨l0, l1, _, _, rfl, rfl, s14 _ _ (s13 _ _ (s12 _ _ (s11 _ _ (s10 _ _ (s9 _ _ (s8 _ _ (el0))))))), el1, by show 6 + 6 ≤ sizeLine; decide, fun c1 nc1 => ?_⟩
  have ec1 : (upd G14 c1 (.lst ([V.ref t0, V.ref t1, V.ref t2, V.ref t3, V.ref t4, V.ref t5] ++ [V.ref t6, V.ref t7, V.ref t8, V.ref t9, V.ref t10, V.ref t11]))) c1 = some (.lst ([V.ref t0, V.ref t1, V.ref t2, V.ref t3, V.ref t4, V.ref t5] ++ [V.ref t6, V.ref t7, V.ref t8, V.ref t9, V.ref t10, V.ref t11])) := upd_same
  have s15 := same_upd (o := .lst ([V.ref t0, V.ref t1, V.ref t2, V.ref t3, V.ref t4, V.ref t5] ++ [V.ref t6, V.ref t7, V.ref t8, V.ref t9, V.ref t10, V.ref t11])) nc1
  revert ec1 s15
  generalize upd G14 c1 (.lst ([V.ref t0, V.ref t1, V.ref t2, V.ref t3, V.ref t4, V.ref t5] ++ [V.ref t6, V.ref t7, V.ref t8, V.ref t9, V.ref t10, V.ref t11])) = G15
  intro ec1 s15
  walk_at "rd"
  refine ⟨by show 2 ≤ sizeLine; decide, fun t12 nt12 => ?_⟩
  have et12 : (upd G15 t12 (.tup [V.str "box", V.bl false])) t12 = some (.tup [V.str "box", V.bl false]) := upd_same
  have s16 := same_upd (o := .tup [V.str "box", V.bl false]) nt12
  revert et12 s16
  generalize upd G15 t12 (.tup [V.str "box", V.bl false]) = G16
  intro et12 s16
  walk_at "rd"
  refine ⟨by show 1 ≤ sizeLine; decide, fun t13 nt13 => ?_⟩
  have et13 : (upd G16 t13 (.tup [V.str "box"])) t13 = some (.tup [V.str "box"]) := upd_same
  have s17 := same_upd (o := .tup [V.str "box"]) nt13
  revert et13 s17
  generalize upd G16 t13 (.tup [V.str "box"]) = G17
  intro et13 s17
  walk_at "rd"
  refine ⟨by show 2 ≤ sizeLine; decide, fun t14 nt14 => ?_⟩
  have et14 : (upd G17 t14 (.lst [V.str "number", V.int 1])) t14 = some (.lst [V.str "number", V.int 1]) := upd_same
  have s18 := same_upd (o := .lst [V.str "number", V.int 1]) nt14
  revert et14 s18
  generalize upd G17 t14 (.lst [V.str "number", V.int 1]) = G18
  intro et14 s18
  walk_at "rd"
  refine ⟨by show 2 ≤ sizeLine; decide, fun t16 nt16 => ?_⟩
  have et16 : (upd G18 t16 (.tup [V.str "word", V.int 1])) t16 = some (.tup [V.str "word", V.int 1]) := upd_same
  have s19 := same_upd (o := .tup [V.str "word", V.int 1]) nt16
  revert et16 s19
  generalize upd G18 t16 (.tup [V.str "word", V.int 1]) = G19
  intro et16 s19
  walk_at "rd"
  refine ⟨by show 2 ≤ sizeLine; decide, fun t17 nt17 => ?_⟩
  have et17 : (upd G19 t17 (.tup [V.int 1, V.int 2])) t17 = some (.tup [V.int 1, V.int 2]) := upd_same
  have s20 := same_upd (o := .tup [V.int 1, V.int 2]) nt17
  revert et17 s20
  generalize upd G19 t17 (.tup [V.int 1, V.int 2]) = G20
  intro et17 s20
  walk_at "rd"
  refine ⟨by show 7 ≤ sizeLine; decide, fun l2 nl2 => ?_⟩
  have el2 : (upd G20 l2 (.lst [V.ref t12, V.ref t13, V.ref t14, V.str "number", V.ref t16, V.ref t17, V.non])) l2 = some (.lst [V.ref t12, V.ref t13, V.ref t14, V.str "number", V.ref t16, V.ref t17, V.non]) := upd_same
  have s21 := same_upd (o := .lst [V.ref t12, V.ref t13, V.ref t14, V.str "number", V.ref t16, V.ref t17, V.non]) nl2
  revert el2 s21
  generalize upd G20 l2 (.lst [V.ref t12, V.ref t13, V.ref t14, V.str "number", V.ref t16, V.ref t17, V.non]) = G21
  intro el2 s21
  refine ⟨c1, l2, _, _, rfl, rfl, s21 _ _ (s20 _ _ (s19 _ _ (s18 _ _ (s17 _ _ (s16 _ _ (ec1)))))), el2, by show 12 + 7 ≤ sizeLine; decide, fun c2 nc2 => ?_⟩
  have ec2 : (upd G21 c2 (.lst (([V.ref t0, V.ref t1, V.ref t2, V.ref t3, V.ref t4, V.ref t5] ++ [V.ref t6, V.ref t7, V.ref t8, V.ref t9, V.ref t10, V.ref t11]) ++ [V.ref t12, V.ref t13, V.ref t14, V.str "number", V.ref t16, V.ref t17, V.non]))) c2 = some (.lst (([V.ref t0, V.ref t1, V.ref t2, V.ref t3, V.ref t4, V.ref t5] ++ [V.ref t6, V.ref t7, V.ref t8, V.ref t9, V.ref t10, V.ref t11]) ++ [V.ref t12, V.ref t13, V.ref t14, V.str "number", V.ref t16, V.ref t17, V.non])) := upd_same
  have s22 := same_upd (o := .lst (([V.ref t0, V.ref t1, V.ref t2, V.ref t3, V.ref t4, V.ref t5] ++ [V.ref t6, V.ref t7, V.ref t8, V.ref t9, V.ref t10, V.ref t11]) ++ [V.ref t12, V.ref t13, V.ref t14, V.str "number", V.ref t16, V.ref t17, V.non])) nc2
  revert ec2 s22
  generalize upd G21 c2 (.lst (([V.ref t0, V.ref t1, V.ref t2, V.ref t3, V.ref t4, V.ref t5] ++ [V.ref t6, V.ref t7, V.ref t8, V.ref t9, V.ref t10, V.ref t11]) ++ [V.ref t12, V.ref t13, V.ref t14, V.str "number", V.ref t16, V.ref t17, V.non])) = G22
  intro ec2 s22
  walk_at "rd"
  refine ⟨by show 3 ≤ sizeLine; decide, fun t19 nt19 => ?_⟩
  have et19 : (upd G22 t19 (.tup [V.str "number", V.int 1, V.int 2])) t19 = some (.tup [V.str "number", V.int 1, V.int 2]) := upd_same
  have s23 := same_upd (o := .tup [V.str "number", V.int 1, V.int 2]) nt19
  revert et19 s23
  generalize upd G22 t19 (.tup [V.str "number", V.int 1, V.int 2]) = G23
  intro et19 s23
  walk_at "rd"
  refine ⟨by show 3 ≤ sizeLine; decide, fun t20 nt20 => ?_⟩
  have et20 : (upd G23 t20 (.tup [V.str "box", V.int 0, V.int 0])) t20 = some (.tup [V.str "box", V.int 0, V.int 0]) := upd_same
  have s24 := same_upd (o := .tup [V.str "box", V.int 0, V.int 0]) nt20
  revert et20 s24
  generalize upd G23 t20 (.tup [V.str "box", V.int 0, V.int 0]) = G24
  intro et20 s24
  walk_at "rd"
  refine ⟨by show 2 ≤ sizeLine; decide, fun t21 nt21 => ?_⟩
  have et21 : (upd G24 t21 (.tup [V.str "box", V.non])) t21 = some (.tup [V.str "box", V.non]) := upd_same
  have s25 := same_upd (o := .tup [V.str "box", V.non]) nt21
  revert et21 s25
  generalize upd G24 t21 (.tup [V.str "box", V.non]) = G25
  intro et21 s25
  walk_at "rd"
  refine ⟨by show 2 ≤ sizeLine; decide, fun t22 nt22 => ?_⟩
  have et22 : (upd G25 t22 (.tup [V.str "box", V.str "3"])) t22 = some (.tup [V.str "box", V.str "3"]) := upd_same
  have s26 := same_upd (o := .tup [V.str "box", V.str "3"]) nt22
  revert et22 s26
  generalize upd G25 t22 (.tup [V.str "box", V.str "3"]) = G26
  intro et22 s26
  walk_at "rd"
  refine ⟨by show 1 ≤ sizeLine; decide, fun u23 nu23 => ?_⟩
  have eu23 : (upd G26 u23 (.lst [V.int 5])) u23 = some (.lst [V.int 5]) := upd_same
  have s27 := same_upd (o := .lst [V.int 5]) nu23
  revert eu23 s27
  generalize upd G26 u23 (.lst [V.int 5]) = G27
  intro eu23 s27
  walk_at "rd"
  refine ⟨by show 2 ≤ sizeLine; decide, fun t23 nt23 => ?_⟩
  have et23 : (upd G27 t23 (.tup [V.str "number", V.ref u23])) t23 = some (.tup [V.str "number", V.ref u23]) := upd_same
  have s28 := same_upd (o := .tup [V.str "number", V.ref u23]) nt23
  revert et23 s28
  generalize upd G27 t23 (.tup [V.str "number", V.ref u23]) = G28
  intro et23 s28
  walk_at "rd"
  refine ⟨by show 1 ≤ sizeLine; decide, fun u24 nu24 => ?_⟩
  have eu24 : (upd G28 u24 (.tup [V.int 3])) u24 = some (.tup [V.int 3]) := upd_same
  have s29 := same_upd (o := .tup [V.int 3]) nu24
  revert eu24 s29
  generalize upd G28 u24 (.tup [V.int 3]) = G29
  intro eu24 s29
  walk_at "rd"
  refine ⟨by show 2 ≤ sizeLine; decide, fun t24 nt24 => ?_⟩
  have et24 : (upd G29 t24 (.tup [V.str "box", V.ref u24])) t24 = some (.tup [V.str "box", V.ref u24]) := upd_same
  have s30 := same_upd (o := .tup [V.str "box", V.ref u24]) nt24
  revert et24 s30
  generalize upd G29 t24 (.tup [V.str "box", V.ref u24]) = G30
  intro et24 s30
  walk_at "rd"
  refine ⟨by show 6 ≤ sizeLine; decide, fun l3 nl3 => ?_⟩
  have el3 : (upd G30 l3 (.lst [V.ref t19, V.ref t20, V.ref t21, V.ref t22, V.ref t23, V.ref t24])) l3 = some (.lst [V.ref t19, V.ref t20, V.ref t21, V.ref t22, V.ref t23, V.ref t24]) := upd_same
  have s31 := same_upd (o := .lst [V.ref t19, V.ref t20, V.ref t21, V.ref t22, V.ref t23, V.ref t24]) nl3
  revert el3 s31
  generalize upd G30 l3 (.lst [V.ref t19, V.ref t20, V.ref t21, V.ref t22, V.ref t23, V.ref t24]) = G31
  intro el3 s31
  refine ⟨c2, l3, _, _, rfl, rfl, s31 _ _ (s30 _ _ (s29 _ _ (s28 _ _ (s27 _ _ (s26 _ _ (s25 _ _ (s24 _ _ (s23 _ _ (ec2))))))))), el3, by show 19 + 6 ≤ sizeLine; decide, fun c3 nc3 => ?_⟩
  have ec3 : (upd G31 c3 (.lst ((([V.ref t0, V.ref t1, V.ref t2, V.ref t3, V.ref t4, V.ref t5] ++ [V.ref t6, V.ref t7, V.ref t8, V.ref t9, V.ref t10, V.ref t11]) ++ [V.ref t12, V.ref t13, V.ref t14, V.str "number", V.ref t16, V.ref t17, V.non]) ++ [V.ref t19, V.ref t20, V.ref t21, V.ref t22, V.ref t23, V.ref t24]))) c3 = some (.lst ((([V.ref t0, V.ref t1, V.ref t2, V.ref t3, V.ref t4, V.ref t5] ++ [V.ref t6, V.ref t7, V.ref t8, V.ref t9, V.ref t10, V.ref t11]) ++ [V.ref t12, V.ref t13, V.ref t14, V.str "number", V.ref t16, V.ref t17, V.non]) ++ [V.ref t19, V.ref t20, V.ref t21, V.ref t22, V.ref t23, V.ref t24])) := upd_same
  have s32 := same_upd (o := .lst ((([V.ref t0, V.ref t1, V.ref t2, V.ref t3, V.ref t4, V.ref t5] ++ [V.ref t6, V.ref t7, V.ref t8, V.ref t9, V.ref t10, V.ref t11]) ++ [V.ref t12, V.ref t13, V.ref t14, V.str "number", V.ref t16, V.ref t17, V.non]) ++ [V.ref t19, V.ref t20, V.ref t21, V.ref t22, V.ref t23, V.ref t24])) nc3
  revert ec3 s32
  generalize upd G31 c3 (.lst ((([V.ref t0, V.ref t1, V.ref t2, V.ref t3, V.ref t4, V.ref t5] ++ [V.ref t6, V.ref t7, V.ref t8, V.ref t9, V.ref t10, V.ref t11]) ++ [V.ref t12, V.ref t13, V.ref t14, V.str "number", V.ref t16, V.ref t17, V.non]) ++ [V.ref t19, V.ref t20, V.ref t21, V.ref t22, V.ref t23, V.ref t24])) = G32
  intro ec3 s32
  have z32 := Same.refl G32
  have z31 := s32.trans z32
  have z30 := s31.trans z31
  have z29 := s30.trans z30
  have z28 := s29.trans z29
  have z27 := s28.trans z28
  have z26 := s27.trans z27
  have z25 := s26.trans z26
  have z24 := s25.trans z25
  have z23 := s24.trans z24
  have z22 := s23.trans z23
  have z21 := s22.trans z22
  have z20 := s21.trans z21
  have z19 := s20.trans z20
  have z18 := s19.trans z19
  have z17 := s18.trans z18
  have z16 := s17.trans z17
  have z15 := s16.trans z16
  have z14 := s15.trans z15
  have z13 := s14.trans z14
  have z12 := s13.trans z13
  have z11 := s12.trans z12
  have z10 := s11.trans z11
  have z9 := s10.trans z10
  have z8 := s9.trans z9
  have z7 := s8.trans z8
  have z6 := s7.trans z7
  have z5 := s6.trans z6
  have z4 := s5.trans z5
  have z3 := s4.trans z4
  have z2 := s3.trans z3
  have z1 := s2.trans z2
  have z0 := s1.trans z1
  have w0 := Same.refl H
  have w1 := w0.trans s1
  have w2 := w1.trans s2
  have w3 := w2.trans s3
  have w4 := w3.trans s4
  have w5 := w4.trans s5
  have w6 := w5.trans s6
  have w7 := w6.trans s7
  have w8 := w7.trans s8
  have w9 := w8.trans s9
  have w10 := w9.trans s10
  have w11 := w10.trans s11
  have w12 := w11.trans s12
  have w13 := w12.trans s13
  have w14 := w13.trans s14
  have w15 := w14.trans s15
  have w16 := w15.trans s16
  have w17 := w16.trans s17
  have w18 := w17.trans s18
  have w19 := w18.trans s19
  have w20 := w19.trans s20
  have w21 := w20.trans s21
  have w22 := w21.trans s22
  have w23 := w22.trans s23
  have w24 := w23.trans s24
  have w25 := w24.trans s25
  have w26 := w25.trans s26
  have w27 := w26.trans s27
  have w28 := w27.trans s28
  have w29 := w28.trans s29
  have w30 := w29.trans s30
  have w31 := w30.trans s31
  have ft0 := hid_at (w0.free nt0) (z1 _ _ et0)
  have ft1 := hid_at (w1.free nt1) (z2 _ _ et1)
  have ft2 := hid_at (w2.free nt2) (z3 _ _ et2)
  have ft3 := hid_at (w3.free nt3) (z4 _ _ et3)
  have ft4 := hid_at (w4.free nt4) (z5 _ _ et4)
  have ft5 := hid_at (w5.free nt5) (z6 _ _ et5)
  have ft6 := hid_at (w7.free nt6) (z8 _ _ et6)
  have ft7 := hid_at (w8.free nt7) (z9 _ _ et7)
  have ft8 := hid_at (w9.free nt8) (z10 _ _ et8)
  have ft9 := hid_at (w10.free nt9) (z11 _ _ et9)
  have ft10 := hid_at (w11.free nt10) (z12 _ _ et10)
  have ft11 := hid_at (w12.free nt11) (z13 _ _ et11)
  have ft12 := hid_at (w15.free nt12) (z16 _ _ et12)
  have ft13 := hid_at (w16.free nt13) (z17 _ _ et13)
  have ft14 := hid_at (w17.free nt14) (z18 _ _ et14)
  have ft16 := hid_at (w18.free nt16) (z19 _ _ et16)
  have ft17 := hid_at (w19.free nt17) (z20 _ _ et17)
  have ft19 := hid_at (w22.free nt19) (z23 _ _ et19)
  have ft20 := hid_at (w23.free nt20) (z24 _ _ et20)
  have ft21 := hid_at (w24.free nt21) (z25 _ _ et21)
  have ft22 := hid_at (w25.free nt22) (z26 _ _ et22)
  have fu23 := hid_at (w26.free nu23) (z27 _ _ eu23)
  have ft23 := hid_at (w27.free nt23) (z28 _ _ et23)
  have fu24 := hid_at (w28.free nu24) (z29 _ _ eu24)
  have ft24 := hid_at (w29.free nt24) (z30 _ _ et24)
  refine k c3 G32 (hidH H G32) ((([V.ref t0, V.ref t1, V.ref t2, V.ref t3, V.ref t4, V.ref t5] ++ [V.ref t6, V.ref t7, V.ref t8, V.ref t9, V.ref t10, V.ref t11]) ++ [V.ref t12, V.ref t13, V.ref t14, V.str "number", V.ref t16, V.ref t17, V.non]) ++ [V.ref t19, V.ref t20, V.ref t21, V.ref t22, V.ref t23, V.ref t24]) z0 (hid_same _ _) (fun b o e => hid_none e) ec3 rfl fun i v hv => ?_
  match i, hv with
  | 0, hv =>
    cases Option.some.inj (show some (V.ref t0) = some v from hv)
    exact ⟨.inl ⟨by decide, t0, rfl, ft0⟩, _, fun K => .tup (.of ft0) (.cons (.str _) (.cons (.int _) .nil)), fr_tup (frs_cons (fr_up (fr_str (by decide +kernel) ⟨by decide +kernel, by decide +kernel⟩)) (frs_cons (fr_up (fr_int (i := 5) (by decide))) frs_nil)) (by decide)⟩
  | 1, hv =>
    cases Option.some.inj (show some (V.ref t1) = some v from hv)
    exact ⟨.inl ⟨by decide, t1, rfl, ft1⟩, _, fun K => .tup (.of ft1) (.cons (.str _) (.cons (.int _) .nil)), fr_tup (frs_cons (fr_up (fr_str (by decide +kernel) ⟨by decide +kernel, by decide +kernel⟩)) (frs_cons (fr_up (fr_int (i := ((10 : Int) ^ (60 : Int).toNat - 1)) (by decide))) frs_nil)) (by decide)⟩
  | 2, hv =>
    cases Option.some.inj (show some (V.ref t2) = some v from hv)
    exact ⟨.inl ⟨by decide, t2, rfl, ft2⟩, _, fun K => .tup (.of ft2) (.cons (.str _) (.cons (.int _) .nil)), fr_tup (frs_cons (fr_up (fr_str (by decide +kernel) ⟨by decide +kernel, by decide +kernel⟩)) (frs_cons (fr_up (fr_int (i := (1 - (10 : Int) ^ (60 : Int).toNat)) (by decide))) frs_nil)) (by decide)⟩
  | 3, hv =>
    cases Option.some.inj (show some (V.ref t3) = some v from hv)
    exact ⟨.inl ⟨by decide, t3, rfl, ft3⟩, _, fun K => .tup (.of ft3) (.cons (.str _) (.cons (.int _) .nil)), fr_tup (frs_cons (fr_up (fr_str (by decide +kernel) ⟨by decide +kernel, by decide +kernel⟩)) (frs_cons (fr_up (fr_int (i := 0) (by decide))) frs_nil)) (by decide)⟩
  | 4, hv =>
    cases Option.some.inj (show some (V.ref t4) = some v from hv)
    exact ⟨.inl ⟨by decide, t4, rfl, ft4⟩, _, fun K => .tup (.of ft4) (.cons (.str _) (.cons (.int _) .nil)), fr_tup (frs_cons (fr_up (fr_str (by decide +kernel) ⟨by decide +kernel, by decide +kernel⟩)) (frs_cons (fr_up (fr_int (i := 3) (by decide))) frs_nil)) (by decide)⟩
  | 5, hv =>
    cases Option.some.inj (show some (V.ref t5) = some v from hv)
    exact ⟨.inr (.inl ⟨by decide, by decide, t5, 1, rfl, ft5, by decide, not_pl (by decide) (by decide)⟩), _, fun K => .tup (.of ft5) (.cons (.str _) (.cons (.int _) .nil)), fr_tup (frs_cons (fr_up (fr_str (by decide +kernel) ⟨by decide +kernel, by decide +kernel⟩)) (frs_cons (fr_up (fr_int (i := 1) (by decide))) frs_nil)) (by decide)⟩
  | 6, hv =>
    cases Option.some.inj (show some (V.ref t6) = some v from hv)
    exact ⟨.inr (.inl ⟨by decide, by decide, t6, 6, rfl, ft6, by decide, not_pl (by decide) (by decide)⟩), _, fun K => .tup (.of ft6) (.cons (.str _) (.cons (.int _) .nil)), fr_tup (frs_cons (fr_up (fr_str (by decide +kernel) ⟨by decide +kernel, by decide +kernel⟩)) (frs_cons (fr_up (fr_int (i := 6) (by decide))) frs_nil)) (by decide)⟩
  | 7, hv =>
    cases Option.some.inj (show some (V.ref t7) = some v from hv)
    exact ⟨.inr (.inl ⟨by decide, by decide, t7, (-1), rfl, ft7, by decide, not_pl (by decide) (by decide)⟩), _, fun K => .tup (.of ft7) (.cons (.str _) (.cons (.int _) .nil)), fr_tup (frs_cons (fr_up (fr_str (by decide +kernel) ⟨by decide +kernel, by decide +kernel⟩)) (frs_cons (fr_up (fr_int (i := (-1)) (by decide))) frs_nil)) (by decide)⟩
  | 8, hv =>
    cases Option.some.inj (show some (V.ref t8) = some v from hv)
    exact ⟨.inr (.inl ⟨by decide, by decide, t8, 12, rfl, ft8, by decide, not_pl (by decide) (by decide)⟩), _, fun K => .tup (.of ft8) (.cons (.str _) (.cons (.int _) .nil)), fr_tup (frs_cons (fr_up (fr_str (by decide +kernel) ⟨by decide +kernel, by decide +kernel⟩)) (frs_cons (fr_up (fr_int (i := 12) (by decide))) frs_nil)) (by decide)⟩
  | 9, hv =>
    cases Option.some.inj (show some (V.ref t9) = some v from hv)
    exact ⟨.inr (.inr ⟨by decide, .val (b := false) ft9 (.bl true) rfl⟩), _, fun K => .tup (.of ft9) (.cons (.str _) (.cons (.bl _) .nil)), fr_tup (frs_cons (fr_up (fr_str (by decide +kernel) ⟨by decide +kernel, by decide +kernel⟩)) (frs_cons (fr_up fr_bl) frs_nil)) (by decide)⟩
  | 10, hv =>
    cases Option.some.inj (show some (V.ref t10) = some v from hv)
    exact ⟨.inr (.inr ⟨by decide, .val (b := false) ft10 (.str _) rfl⟩), _, fun K => .tup (.of ft10) (.cons (.str _) (.cons (.str _) .nil)), fr_tup (frs_cons (fr_up (fr_str (by decide +kernel) ⟨by decide +kernel, by decide +kernel⟩)) (frs_cons (fr_up (fr_str (by decide +kernel) ⟨by decide +kernel, by decide +kernel⟩)) frs_nil)) (by decide)⟩
  | 11, hv =>
    cases Option.some.inj (show some (V.ref t11) = some v from hv)
    exact ⟨.inr (.inr ⟨by decide, .val (b := false) ft11 .non rfl⟩), _, fun K => .tup (.of ft11) (.cons (.str _) (.cons (.non) .nil)), fr_tup (frs_cons (fr_up (fr_str (by decide +kernel) ⟨by decide +kernel, by decide +kernel⟩)) (frs_cons (fr_up fr_non) frs_nil)) (by decide)⟩
  | 12, hv =>
    cases Option.some.inj (show some (V.ref t12) = some v from hv)
    exact ⟨.inr (.inr ⟨by decide, .val (b := true) ft12 (.bl false) rfl⟩), _, fun K => .tup (.of ft12) (.cons (.str _) (.cons (.bl _) .nil)), fr_tup (frs_cons (fr_up (fr_str (by decide +kernel) ⟨by decide +kernel, by decide +kernel⟩)) (frs_cons (fr_up fr_bl) frs_nil)) (by decide)⟩
  | 13, hv =>
    cases Option.some.inj (show some (V.ref t13) = some v from hv)
    exact ⟨.inr (.inr ⟨by decide, .one ft13 (by decide)⟩), _, fun K => .tup (.of ft13) (.cons (.str _) .nil), fr_tup (frs_cons (fr_up (fr_str (by decide +kernel) ⟨by decide +kernel, by decide +kernel⟩)) frs_nil) (by decide)⟩
  | 14, hv =>
    cases Option.some.inj (show some (V.ref t14) = some v from hv)
    exact ⟨.inr (.inr ⟨by decide, .lst ft14⟩), _, fun K => .lst (.of ft14) (.cons (.str _) (.cons (.int _) .nil)), fr_lst (frs_cons (fr_up (fr_str (by decide +kernel) ⟨by decide +kernel, by decide +kernel⟩)) (frs_cons (fr_up (fr_int (i := 1) (by decide))) frs_nil)) (by decide)⟩
  | 15, hv =>
    cases Option.some.inj (show some (V.str "number") = some v from hv)
    exact ⟨.inr (.inr ⟨by decide, .str _⟩), _, fun K => .str _, fr_leaf (fr_str (by decide +kernel) ⟨by decide +kernel, by decide +kernel⟩)⟩
  | 16, hv =>
    cases Option.some.inj (show some (V.ref t16) = some v from hv)
    exact ⟨.inr (.inr ⟨by decide, .word ft16 (by decide +kernel)⟩), _, fun K => .tup (.of ft16) (.cons (.str _) (.cons (.int _) .nil)), fr_tup (frs_cons (fr_up (fr_str (by decide +kernel) ⟨by decide +kernel, by decide +kernel⟩)) (frs_cons (fr_up (fr_int (i := 1) (by decide))) frs_nil)) (by decide)⟩
  | 17, hv =>
    cases Option.some.inj (show some (V.ref t17) = some v from hv)
    exact ⟨.inr (.inr ⟨by decide, .fst ft17⟩), _, fun K => .tup (.of ft17) (.cons (.int _) (.cons (.int _) .nil)), fr_tup (frs_cons (fr_up (fr_int (i := 1) (by decide))) (frs_cons (fr_up (fr_int (i := 2) (by decide))) frs_nil)) (by decide)⟩
  | 18, hv =>
    cases Option.some.inj (show some (V.non) = some v from hv)
    exact ⟨.inr (.inr ⟨by decide, .non⟩), _, fun K => .non, fr_leaf fr_non⟩
  | 19, hv =>
    cases Option.some.inj (show some (V.ref t19) = some v from hv)
    exact ⟨.inr (.inr ⟨by decide, .one ft19 (by decide)⟩), _, fun K => .tup (.of ft19) (.cons (.str _) (.cons (.int _) (.cons (.int _) .nil))), fr_tup (frs_cons (fr_up (fr_str (by decide +kernel) ⟨by decide +kernel, by decide +kernel⟩)) (frs_cons (fr_up (fr_int (i := 1) (by decide))) (frs_cons (fr_up (fr_int (i := 2) (by decide))) frs_nil))) (by decide)⟩
  | 20, hv =>
    cases Option.some.inj (show some (V.ref t20) = some v from hv)
    exact ⟨.inr (.inr ⟨by decide, .one ft20 (by decide)⟩), _, fun K => .tup (.of ft20) (.cons (.str _) (.cons (.int _) (.cons (.int _) .nil))), fr_tup (frs_cons (fr_up (fr_str (by decide +kernel) ⟨by decide +kernel, by decide +kernel⟩)) (frs_cons (fr_up (fr_int (i := 0) (by decide))) (frs_cons (fr_up (fr_int (i := 0) (by decide))) frs_nil))) (by decide)⟩
  | 21, hv =>
    cases Option.some.inj (show some (V.ref t21) = some v from hv)
    exact ⟨.inr (.inr ⟨by decide, .val (b := true) ft21 .non rfl⟩), _, fun K => .tup (.of ft21) (.cons (.str _) (.cons (.non) .nil)), fr_tup (frs_cons (fr_up (fr_str (by decide +kernel) ⟨by decide +kernel, by decide +kernel⟩)) (frs_cons (fr_up fr_non) frs_nil)) (by decide)⟩
  | 22, hv =>
    cases Option.some.inj (show some (V.ref t22) = some v from hv)
    exact ⟨.inr (.inr ⟨by decide, .val (b := true) ft22 (.str _) rfl⟩), _, fun K => .tup (.of ft22) (.cons (.str _) (.cons (.str _) .nil)), fr_tup (frs_cons (fr_up (fr_str (by decide +kernel) ⟨by decide +kernel, by decide +kernel⟩)) (frs_cons (fr_up (fr_str (by decide +kernel) ⟨by decide +kernel, by decide +kernel⟩)) frs_nil)) (by decide)⟩
  | 23, hv =>
    cases Option.some.inj (show some (V.ref t23) = some v from hv)
    exact ⟨.inr (.inr ⟨by decide, .val (b := false) ft23 (.lst fu23) rfl⟩), _, fun K => .tup (.of ft23) (.cons (.str _) (.cons (.lst (.of fu23) (.cons (.int _) .nil)) .nil)), fr_tup (frs_cons (fr_up (fr_str (by decide +kernel) ⟨by decide +kernel, by decide +kernel⟩)) (frs_cons fr_l5 frs_nil)) (by decide)⟩
  | 24, hv =>
    cases Option.some.inj (show some (V.ref t24) = some v from hv)
    exact ⟨.inr (.inr ⟨by decide, .val (b := true) ft24 (.tup fu24) rfl⟩), _, fun K => .tup (.of ft24) (.cons (.str _) (.cons (.tup (.of fu24) (.cons (.int _) .nil)) .nil)), fr_tup (frs_cons (fr_up (fr_str (by decide +kernel) ⟨by decide +kernel, by decide +kernel⟩)) (frs_cons fr_t3 frs_nil)) (by decide)⟩
  | i + 25, hv => exact absurd hv (by simp)
theorem nat_get {cs : List Nat} {j : Nat} {x : V} (hx : (cs.map natV)[j]? = some x) : ∃ h, cs[j]? = some h ∧ x = natV h := by
  rw [List.getElem?_map] at hx
  cases e : cs[j]? with
  | none => rw [e] at hx; cases hx
  | some h => rw [e] at hx; exact ⟨h, rfl, (Option.some.inj hx).symm⟩
def wordOf (p : Nat) : Str := if p < 5 then "" else if p ≤ 8 then "box" else "thing"
theorem flat_strs (ss : List Str) : (ss.map V.str).all flatV = true := by
  rw [List.all_map]
  exact List.all_eq_true.mpr fun _ _ => rfl
theorem in_strs (s : Str) (ss : List Str) : inV (.str s) (ss.map V.str) = decide (s ∈ ss) := by
  unfold inV
  rw [List.any_map]
  by_cases h : s ∈ ss
  · rw [decide_eq_true h]
    exact List.any_eq_true.mpr ⟨s, h, by show (s == s) = true; exact beq_self_eq_true s⟩
  · rw [decide_eq_false h]
    refine List.any_eq_false.mpr fun d hd => ?_
    show ¬ (d == s) = true
    intro z
    exact h (eq_of_beq z ▸ hd)
def madeDue (m : Nat) (ps : List Nat) : Str := if (("thing" : Str) ∈ ps.map wordOf) then "thing" else if (("box" : Str) ∈ ps.map wordOf) then "box" else if 5 < m then "room" else ""
def isPl : V → Bool
  | .int n => decide (n = 0 ∨ n = 3)
  | _ => false
def isFd : V → Bool
  | .int n => decide (0 ≤ n ∧ n < 2)
  | _ => false
def putDue (c : Nat) (v u : V) (p : Nat) : Str := if isPl v = false then "box" else if c = 2 then "" else if isFd u = false then "field" else wordOf p
/-! #### _law_word -/
def sp_l_word (K : PySem.W.Frag) : Sp := fun vs H Q _ => ∃ p : Nat, vs = [.int p] ∧ ∀ H', Same H H' → Q (.str (wordOf p)) H'
theorem ok_l_word (T : Txt K mg A) : FnOk P w K mg base CX0 1 A.f_l_word A.d_l_word ["_law_pick"] (sp_l_word K) := by
  refine T.F_l_word.ok sc_l_word (fun vs H Q E h => by obtain ⟨p, rfl, k⟩ := h; rfl) (fun cdv A' outer s H vs Q E hr h => ⟨_, (pss_cons (ps_if (pt_cmpR op_ltI (pv 0) pe_int (nomark _))
  (pss_one (ps_ret pe_str))
  pss_nil)
  (pss_one (ps_ret (pe_ix (ix_listK (K := K) rfl) (pe_lst (pa_cons pe_str (pa_cons pe_str pa_nil))) (pe_callTy call_int1 (by rfl) T.z_int (by decide +kernel) (pa_cons (pe_cmpR op_gtI (pv 0) pe_int (nomark _)) pa_nil)) (fun _ _ => rfl))))), ?_⟩)
  obtain ⟨p, rfl, k⟩ := h
  have e0 : (Str.ofString "") = Str.empty := rfl
  walk_at "rd"
  by_cases c1 : p < 5
  · refine ifT (decide_eq_true (by omega)) ?_
    walk_at "rd"
    have q := k H (Same.refl _)
    unfold wordOf at q
    rw [if_pos c1] at q
    exact q
  · refine ifF (decide_eq_false (by omega)) ?_
    walk_at "rd"
    refine ⟨by show 2 ≤ sizeLine; decide, fun l hl => ?_⟩
    walk_at "rd"
    refine .inr ⟨_, rfl, ?_⟩
    have q := k _ (same_upd (o := .lst [V.str "box", V.str "thing"]) hl)
    unfold wordOf at q
    rw [if_neg c1] at q
    by_cases c2 : p ≤ 8
    · rw [if_pos c2] at q
      rw [decide_eq_false (show ¬ (8 : Int) < (p : Int) by omega)]
      exact ⟨l, _, 0, .str "box", rfl, rfl, .of upd_same, rfl, q⟩
    · rw [if_neg c2] at q
      rw [decide_eq_true (show (8 : Int) < (p : Int) by omega)]
      exact ⟨l, _, 1, .str "thing", rfl, rfl, .of upd_same, rfl, q⟩
/-! #### _law_made_due -/
def sp_l_made_due (K : PySem.W.Frag) : Sp := fun vs H Q _ => ∃ (m : Nat) (a : Addr) (ps : List Nat), vs = [.int m, .ref a] ∧ H a = some (.lst (ps.map natV)) ∧ ps.length ≤ 10 ∧ ∀ H', Same H H' → Q (.str (madeDue m ps)) H'
theorem ok_l_made_due (T : Txt K mg A) : FnOk P w K mg base CX0 2 A.f_l_made_due A.d_l_made_due ["_law_many", "_law_picks"] (sp_l_made_due K) := by
  refine T.F_l_made_due.ok sc_l_made_due (fun vs H Q E h => by obtain ⟨m, a, ps, rfl, ea, hl, k⟩ := h; rfl) (fun cdv A' outer s H vs Q E hr h => ⟨_, (pss_cons (ps_setLc (i := 2) (own := [("_law_pick", 3)]) (g := gName 3) rfl sc_l_made_due.nd rfl rfl (sw_true rfl rfl rfl (by decide +kernel)) (pi_listK (K := K) rfl (pv 1)) (blkOk_by (own := [("_law_pick", 3)]) (N := ["_law_many", "_law_picks", "_law_words", "_law_pick", "_law_word_here"]) (sc := defScope s_l_made_due) (by decide +kernel)) (fun _ _ _ _ _ => pg_name (i := 3) sc_l_made_due.nd rfl (.inl rfl)) (fun _ _ _ _ _ => pts_nil) (fun _ _ _ _ _ => (pe_call (ok_l_word T) (hr.mono (by decide)) (by rfl) T.m__law_word T.F_l_word.kp T.b_l_word .nil pass0 (pa_cons (pv 3) pa_nil))))
  (pss_cons (ps_for PassesOwn.never rfl (pi_listK (K := K) rfl (pe_lst (pa_cons pe_str (pa_cons pe_str pa_nil)))) (pg_name (i := 4) sc_l_made_due.nd rfl (.inl rfl))
  (pss_one (ps_if (pt_cmpR (op_inK (K := K) rfl) (pv 4) (pv 2) (by rfl))
  (pss_one (ps_ret (pv 4)))
  pss_nil)))
  (pss_one (ps_ret (pe_op op_repS pe_str (pe_callTy call_int1 (by rfl) T.z_int (by decide +kernel) (pa_cons (pe_cmpR op_gtI (pv 0) pe_int (nomark _)) pa_nil))))))), ?_⟩)
  obtain ⟨m, a, ps, rfl, ea, hl, k⟩ := h
  walk_at "rd"
  refine ⟨⟨_, .of ea⟩, fun D hD => lc_list (K := K) (a := a) (xs := ps.map natV) (fun i H' => Same H H' ∧ H' D = some (.lst (((ps.take i).map wordOf).map V.str))) ⟨same_upd hD, upd_same⟩ (fun i H' _ p => .of (p.1 _ _ ea)) (fun i x H' hx p => ?_) (fun H1 p => ?_)⟩
  · obtain ⟨c, hc, rfl⟩ := nat_get hx
    refine ⟨rfl, ?_⟩
    walk_at "rd"
    refine fun H2 s2 => ?_
    refine ⟨_, s2 _ _ p.2, sz2001 (by rw [List.length_map, List.length_map, List.length_take]; omega), same_mut hD (p.1.trans s2), ?_⟩
    rw [upd_same, List.take_add_one, hc, Option.toList_some, List.map_append, List.map_append]
    rfl
  obtain ⟨p1, p2⟩ := p
  rw [List.length_map, List.take_length] at p2
  walk_at "rd"
  refine ⟨by show 2 ≤ sizeLine; decide, fun q hq => ?_⟩
  have sq := same_upd (o := .lst [V.str "thing", V.str "box"]) hq
  have S := p1.trans sq
  have eD := sq _ _ p2
  have eq : (upd H1 q (.lst [V.str "thing", V.str "box"])) q = some (.lst [V.str "thing", V.str "box"]) := upd_same
  revert S eD eq
  generalize upd H1 q (.lst [V.str "thing", V.str "box"]) = H2
  intro S eD eq
  walk_at "rd"
  refine ⟨⟨_, .of eq⟩, for_list (K := K) (a := q) (xs := [V.str "thing", V.str "box"]) (fun i σ' H' => ∃ y : Option V, σ' = [some (.int m), some (.ref a), some (.ref D), none, y] ∧ H' = H2 ∧ (0 < i → ¬ (("thing" : Str) ∈ ps.map wordOf)) ∧ (1 < i → ¬ (("box" : Str) ∈ ps.map wordOf))) ⟨none, rfl, rfl, fun z => absurd z (by decide), fun z => absurd z (by decide)⟩ (fun i σ' H' _ ⟨_, _, e, _⟩ => .of (by rw [e]; exact eq)) ?_ ?_⟩
  · rintro i x σ' H' hx ⟨y, rfl, rfl, n1, n2⟩
    match i, hx with
    | 0, hx =>
      cases Option.some.inj (show some (V.str "thing") = some x from hx)
      walk_at "rd"
      refine ⟨D, _, rfl, .inl (.of eD), rfl, flat_strs _, ?_⟩
      walk_at "rd"
      by_cases c : (("thing" : Str) ∈ ps.map wordOf)
      · refine ifT ?_ ?_
        · show inV (.str "thing") ((ps.map wordOf).map V.str) = true
          rw [in_strs, decide_eq_true c]
        walk_at "rd"
        have z := k _ S
        unfold madeDue at z
        rw [if_pos c] at z
        exact z
      · refine ifF ?_ ⟨_, rfl, rfl, fun _ => c, fun z => absurd z (by decide)⟩
        show inV (.str "thing") ((ps.map wordOf).map V.str) = false
        rw [in_strs, decide_eq_false c]
    | 1, hx =>
      cases Option.some.inj (show some (V.str "box") = some x from hx)
      have c0 := n1 (by decide)
      walk_at "rd"
      refine ⟨D, _, rfl, .inl (.of eD), rfl, flat_strs _, ?_⟩
      walk_at "rd"
      by_cases c : (("box" : Str) ∈ ps.map wordOf)
      · refine ifT ?_ ?_
        · show inV (.str "box") ((ps.map wordOf).map V.str) = true
          rw [in_strs, decide_eq_true c]
        walk_at "rd"
        have z := k _ S
        unfold madeDue at z
        rw [if_neg c0, if_pos c] at z
        exact z
      · refine ifF ?_ ⟨_, rfl, rfl, fun _ => c0, fun _ => c⟩
        show inV (.str "box") ((ps.map wordOf).map V.str) = false
        rw [in_strs, decide_eq_false c]
    | i + 2, hx => exact absurd hx (by simp)
  · rintro σ' H' ⟨y, rfl, rfl, n1, n2⟩
    have c0 := n1 (by show 0 < 2; decide)
    have c1 := n2 (by show 1 < 2; decide)
    walk_at "rd"
    refine .inr ⟨_, rfl, ?_⟩
    refine ⟨_, _, rfl, rfl, ?_⟩
    have z := k _ S
    unfold madeDue at z
    rw [if_neg c0, if_neg c1] at z
    by_cases c : 5 < m
    · rw [decide_eq_true (show (5 : Int) < (m : Int) by omega)]
      rw [if_pos c] at z
      exact z
    · rw [decide_eq_false (show ¬ (5 : Int) < (m : Int) by omega)]
      rw [if_neg c] at z
      exact z
/-! #### _law_put_due -/
def sp_l_put_due (K : PySem.W.Frag) : Sp := fun vs H Q _ => ∃ (c : Nat) (v u : V) (d : PyData) (p : Nat), vs = [.int c, v, u, .int p] ∧ Pv H v d ∧ Kv H u ∧ ∀ H', Same H H' → Q (.str (putDue c v u p)) H'
theorem ok_l_put_due (T : Txt K mg A) : FnOk P w K mg base CX0 2 A.f_l_put_due A.d_l_put_due ["_law_call", "_law_place", "_law_field", "_law_pick"] (sp_l_put_due K) := by
  refine T.F_l_put_due.ok sc_l_put_due (fun vs H Q E h => by obtain ⟨c, v, u, d, p, rfl, hv, hu, k⟩ := h; rfl) (fun cdv A' outer s H vs Q E hr h => ⟨_, (pss_cons (ps_if (PW.pt (pw_or (pt_cmpR (op_notInT (K := K) rfl (room65 hr)) (pv 1) (pe_tup (pa_cons pe_int (pa_cons pe_int pa_nil))) (by rfl)) (pw_or1 (pt_cmpR op_isB (pv 1) pe_bl (nomark _)))))
  (pss_one (ps_ret pe_str))
  pss_nil)
  (pss_cons (ps_if (pt_cmpR op_eq (pv 0) pe_int (nomark _))
  (pss_one (ps_ret pe_str))
  pss_nil)
  (pss_cons (ps_if (PW.pt (pw_or (pt_not (pt_val (pe_call (ok_l_number T) (hr.mono (by decide)) (by rfl) T.m__law_number T.F_l_number.kp T.b_l_number .nil pass0 (pa_cons (pv 2) pa_nil)))) (pw_or1 (pt_not (pt_chain op_leI op_ltI pe_int (pv 2) pe_int)))))
  (pss_one (ps_ret pe_str))
  pss_nil)
  (pss_one (ps_ret (pe_call (ok_l_word T) (hr.mono (by decide)) (by rfl) T.m__law_word T.F_l_word.kp T.b_l_word .nil pass0 (pa_cons (pv 3) pa_nil))))))), ?_⟩)
  obtain ⟨c, v, u, d, p, rfl, hv, hu, k⟩ := h
  walk_at "rd"
  refine ⟨by show 2 ≤ sizeLine; decide, fun t ht => ?_⟩
  have s1 := same_upd (o := .tup [V.int 0, V.int 3]) ht
  refine ⟨d, [.int 0, .int 3], (hv.same s1).dp, .tup (.of upd_same) (.cons (.int _) (.cons (.int _) .nil)), hv.shaped, by simp [SeqAt.shaped, PyData.canLay0, PyData.canLayAll0, PyData.depth, PyData.depthAll], ?_⟩
  have no : isPl v = false → Q (.str "box") (upd H t (.tup [V.int 0, V.int 3])) := fun z => by
    have q := k _ s1
    unfold putDue at q
    rw [if_pos z] at q
    exact q
  -- what follows where it is the place of a box
  have yes : isPl v = true → ∀ n : Int, v = .int n → (![PyData.int 0, .int 3].any fun z => PyData.eqv z d) = false ∧ decide (v = .bl false) = false := fun z n e => by
    subst e
    cases hv
    have z := of_decide_eq_true z
    constructor
    · rcases z with z | z <;> (rw [z]; simp [PyData.eqv])
    · exact decide_eq_false fun q => nomatch q
  walk_at "rd"
  by_cases hp : isPl v = true
  · obtain ⟨n, rfl⟩ : ∃ n : Int, v = .int n := by
      cases v with
      | int n => exact ⟨n, rfl⟩
      | _ => exact absurd hp Bool.false_ne_true
    obtain ⟨y1, y2⟩ := yes hp n rfl
    refine ifF y1 ?_
    walk_at "rd"
    refine ⟨(fun a z => by cases z), ?_⟩
    walk_at "rd"
    have q0 := k _ s1
    unfold putDue at q0
    rw [if_neg (by rw [hp]; decide)] at q0
    by_cases c2 : c = 2
    · refine ifT (by rw [c2]; rfl) ?_
      walk_at "rd"
      rw [if_pos c2] at q0
      exact q0
    · refine ifF (decide_eq_false fun z => c2 (by have := V.int.inj z; omega)) ?_
      rw [if_neg c2] at q0
      walk_at "rd"
      refine ⟨hu.same s1, ?_⟩
      walk_at "rd"
      have bad : isFd u = false → Q (.str "field") (upd H t (.tup [V.int 0, V.int 3])) := fun z => by
        rw [if_pos z] at q0
        exact q0
      by_cases wu : whole u = true
      · refine ifF (by rw [wu]; rfl) ?_
        obtain ⟨m, rfl, hm⟩ := whole_int wu
        walk_at "rd"
        by_cases c3 : 0 ≤ m
        · refine ifT (decide_eq_true c3) ?_
          walk_at "rd"
          by_cases c4 : m < 2
          · refine ifF (by rw [decide_eq_true c4]; rfl) ?_
            walk_at "rd"
            refine fun H2 s2 => ?_
            have q2 := k _ (s1.trans s2)
            unfold putDue at q2
            rw [if_neg (by rw [hp]; decide), if_neg c2, if_neg (by rw [show isFd (.int m) = true from decide_eq_true ⟨c3, c4⟩]; decide)] at q2
            exact q2
          · refine ifT (by rw [decide_eq_false c4]; rfl) ?_
            walk_at "rd"
            exact bad (decide_eq_false fun z => c4 z.2)
        · refine ifF (decide_eq_false c3) ?_
          walk_at "rd"
          exact bad (decide_eq_false fun z => c3 z.1)
      · refine ifT (by rw [show whole u = false by simpa using wu]; rfl) ?_
        walk_at "rd"
        refine bad ?_
        cases u with
        | int m => exact decide_eq_false fun z => wu (decide_eq_true (by omega))
        | _ => rfl
  · have hp2 : isPl v = false := by simpa using hp
    cases hv with
    | int n =>
      have nz : ¬ (n = 0 ∨ n = 3) := of_decide_eq_false hp2
      refine ifT ?_ ?_
      · have a1 : ((0 : Int) == n) = false := beq_eq_false_iff_ne.mpr (by omega)
        have a2 : ((3 : Int) == n) = false := beq_eq_false_iff_ne.mpr (by omega)
        simp [PyData.eqv, a1, a2]
      walk_at "rd"
      exact no hp2
    | bl b =>
      cases b with
      | true =>
        refine ifT (by simp [PyData.eqv]) ?_
        walk_at "rd"
        exact no rfl
      | false =>
        refine ifF (by simp [PyData.eqv]) ?_
        walk_at "rd"
        refine ⟨(fun a z => by cases z), ?_⟩
        walk_at "rd"
        exact no rfl
    | str s hs =>
      refine ifT (by simp [PyData.eqv]) ?_
      walk_at "rd"
      exact no rfl
    | non =>
      refine ifT (by simp [PyData.eqv]) ?_
      walk_at "rd"
      exact no rfl
    | lst e =>
      refine ifT (by simp [PyData.eqv]) ?_
      walk_at "rd"
      exact no rfl
    | tup e =>
      refine ifT (by simp [PyData.eqv]) ?_
      walk_at "rd"
      exact no rfl
/-! #### _law_drawn_place -/
def sp_l_drawn_place (K : PySem.W.Frag) : Sp := fun vs H Q _ => ∃ n : Int, vs = [.int n] ∧ ∀ (v : V) (d : PyData) (H' : Hp), Same H H' → Pv H' v d → Q v H'
theorem ok_l_drawn_place (T : Txt K mg A) : FnOk P w K mg base CX0 1 A.f_l_drawn_place A.d_l_drawn_place ["_law_cell"] (sp_l_drawn_place K) := by
  refine T.F_l_drawn_place.ok sc_l_drawn_place (fun vs H Q E h => by obtain ⟨n, rfl, k⟩ := h; rfl) (fun cdv A' outer s H vs Q E hr h => ⟨_, (pss_one (ps_ret (pe_ix (ix_listK (K := K) rfl) (pe_lst (pa_cons pe_int (pa_cons pe_int (pa_cons pe_int (pa_cons pe_int (pa_cons pe_int (pa_cons pe_int (pa_cons pe_int (pa_cons pe_int (pa_cons pe_int (pa_cons (pe_un un_neg pe_int) (pa_cons pe_bl (pa_cons pe_bl (pa_cons pe_non (pa_cons pe_str (pa_cons (pe_op op_powI pe_int pe_int) (pa_cons (pe_lst (pa_cons pe_int pa_nil)) (pa_cons (pe_tup (pa_cons pe_int pa_nil)) pa_nil)))))))))))))))))) (pe_op op_modI (pv 0) pe_int) (fun _ _ => rfl)))), ?_⟩)
  obtain ⟨n, rfl, k⟩ := h
  walk_at "rd"
  refine ⟨by show 1 ≤ sizeLine; decide, fun t1 n1 => ?_⟩
  have s1 := same_upd (o := .lst [V.int 3]) n1
  walk_at "rd"
  refine ⟨by show 1 ≤ sizeLine; decide, fun t2 n2 => ?_⟩
  have s2 := same_upd (o := .tup [V.int 0]) n2
  walk_at "rd"
  refine ⟨by show 17 ≤ sizeLine; decide, fun l hl => ?_⟩
  have s3 := same_upd (o := .lst [V.int 0, V.int 3, V.int 3, V.int 0, V.int 3, V.int 3, V.int 0, V.int 1, V.int 6, V.int (-3), V.bl true, V.bl false, V.non, V.str "3", V.int ((10 : Int) ^ (64 : Int).toNat), V.ref t1, V.ref t2]) hl
  have S := s1.trans (s2.trans s3)
  have f1 := (s2.trans s3) t1 _ upd_same
  have f2 := s3 t2 _ upd_same
  obtain ⟨c, ec, hc⟩ := mod_nat (n := 17) n (by decide)
  walk_at "rd"
  rw [show n % 17 = (c : Int) from ec]
  have all : ∀ v ∈ ([V.int 0, V.int 3, V.int 3, V.int 0, V.int 3, V.int 3, V.int 0, V.int 1, V.int 6, V.int (-3), V.bl true, V.bl false, V.non, V.str "3", V.int ((10 : Int) ^ (64 : Int).toNat), V.ref t1, V.ref t2] : List V), ∃ d, Pv _ v d := fun v hv => by
    simp only [List.mem_cons, List.not_mem_nil, or_false] at hv
    rcases hv with rfl | rfl | rfl | rfl | rfl | rfl | rfl | rfl | rfl | rfl | rfl | rfl | rfl | rfl | rfl | rfl | rfl
    all_goals first | exact ⟨_, .int _⟩ | exact ⟨_, .bl _⟩ | exact ⟨_, .non⟩ | exact ⟨_, .str _ (by decide +kernel)⟩ | exact ⟨_, .lst f1⟩ | exact ⟨_, .tup f2⟩
  have g : ([V.int 0, V.int 3, V.int 3, V.int 0, V.int 3, V.int 3, V.int 0, V.int 1, V.int 6, V.int (-3), V.bl true, V.bl false, V.non, V.str "3", V.int ((10 : Int) ^ (64 : Int).toNat), V.ref t1, V.ref t2] : List V)[c]? = some ([V.int 0, V.int 3, V.int 3, V.int 0, V.int 3, V.int 3, V.int 0, V.int 1, V.int 6, V.int (-3), V.bl true, V.bl false, V.non, V.str "3", V.int ((10 : Int) ^ (64 : Int).toNat), V.ref t1, V.ref t2] : List V)[c] := List.getElem?_eq_getElem hc
  obtain ⟨d, hd⟩ := all _ (List.getElem_mem hc)
  exact ⟨l, _, (c : Int), _, rfl, rfl, .of upd_same, atI_nat g, k _ d _ S hd⟩
/-! #### _law_drawn_field -/
def sp_l_drawn_field (K : PySem.W.Frag) : Sp := fun vs H Q _ => ∃ n : Int, vs = [.int n] ∧ ∀ (v : V) (d : PyData) (H' : Hp), Same H H' → Pv H' v d → Q v H'
theorem ok_l_drawn_field (T : Txt K mg A) : FnOk P w K mg base CX0 1 A.f_l_drawn_field A.d_l_drawn_field ["_law_cell"] (sp_l_drawn_field K) := by
  refine T.F_l_drawn_field.ok sc_l_drawn_field (fun vs H Q E h => by obtain ⟨n, rfl, k⟩ := h; rfl) (fun cdv A' outer s H vs Q E hr h => ⟨_, (pss_one (ps_ret (pe_ix (ix_listK (K := K) rfl) (pe_lst (pa_cons pe_int (pa_cons pe_int (pa_cons pe_int (pa_cons pe_int (pa_cons pe_int (pa_cons pe_int (pa_cons (pe_un un_neg pe_int) (pa_cons pe_bl (pa_cons pe_bl (pa_cons pe_non (pa_cons pe_str (pa_cons (pe_op op_powI pe_int pe_int) (pa_cons (pe_lst (pa_cons pe_int pa_nil)) (pa_cons (pe_tup (pa_cons pe_int pa_nil)) pa_nil))))))))))))))) (pe_op op_modI (pv 0) pe_int) (fun _ _ => rfl)))), ?_⟩)
  obtain ⟨n, rfl, k⟩ := h
  walk_at "rd"
  refine ⟨by show 1 ≤ sizeLine; decide, fun t1 n1 => ?_⟩
  have s1 := same_upd (o := .lst [V.int 0]) n1
  walk_at "rd"
  refine ⟨by show 1 ≤ sizeLine; decide, fun t2 n2 => ?_⟩
  have s2 := same_upd (o := .tup [V.int 1]) n2
  walk_at "rd"
  refine ⟨by show 14 ≤ sizeLine; decide, fun l hl => ?_⟩
  have s3 := same_upd (o := .lst [V.int 0, V.int 1, V.int 0, V.int 1, V.int 0, V.int 2, V.int (-1), V.bl true, V.bl false, V.non, V.str "0", V.int ((10 : Int) ^ (64 : Int).toNat), V.ref t1, V.ref t2]) hl
  have S := s1.trans (s2.trans s3)
  have f1 := (s2.trans s3) t1 _ upd_same
  have f2 := s3 t2 _ upd_same
  obtain ⟨c, ec, hc⟩ := mod_nat (n := 14) n (by decide)
  walk_at "rd"
  rw [show n % 14 = (c : Int) from ec]
  have all : ∀ v ∈ ([V.int 0, V.int 1, V.int 0, V.int 1, V.int 0, V.int 2, V.int (-1), V.bl true, V.bl false, V.non, V.str "0", V.int ((10 : Int) ^ (64 : Int).toNat), V.ref t1, V.ref t2] : List V), ∃ d, Pv _ v d := fun v hv => by
    simp only [List.mem_cons, List.not_mem_nil, or_false] at hv
    rcases hv with rfl | rfl | rfl | rfl | rfl | rfl | rfl | rfl | rfl | rfl | rfl | rfl | rfl | rfl
    all_goals first | exact ⟨_, .int _⟩ | exact ⟨_, .bl _⟩ | exact ⟨_, .non⟩ | exact ⟨_, .str _ (by decide +kernel)⟩ | exact ⟨_, .lst f1⟩ | exact ⟨_, .tup f2⟩
  have g : ([V.int 0, V.int 1, V.int 0, V.int 1, V.int 0, V.int 2, V.int (-1), V.bl true, V.bl false, V.non, V.str "0", V.int ((10 : Int) ^ (64 : Int).toNat), V.ref t1, V.ref t2] : List V)[c]? = some ([V.int 0, V.int 1, V.int 0, V.int 1, V.int 0, V.int 2, V.int (-1), V.bl true, V.bl false, V.non, V.str "0", V.int ((10 : Int) ^ (64 : Int).toNat), V.ref t1, V.ref t2] : List V)[c] := List.getElem?_eq_getElem hc
  obtain ⟨d, hd⟩ := all _ (List.getElem_mem hc)
  exact ⟨l, _, (c : Int), _, rfl, rfl, .of upd_same, atI_nat g, k _ d _ S hd⟩
/-! #### _law_sizes_right -/
def sp_l_sizes_right (K : PySem.W.Frag) : Sp := fun vs H Q _ => ∃ (a : Addr) (ns : List Int), vs = [.ref a] ∧ SqL K H a (ns.map V.int) ∧ ns.length ≤ 1000 ∧ ∀ H', Same H H' → Q (.bl true) H'
theorem ok_l_sizes_right (T : Txt K mg A) : FnOk P w K mg base CX0 5 A.f_l_sizes_right A.d_l_sizes_right ["_law_script"] (sp_l_sizes_right K) := by
  refine T.F_l_sizes_right.ok sc_l_sizes_right (fun vs H Q E h => by obtain ⟨a, ns, rfl, hS, hl, k⟩ := h; rfl) (fun cdv A' outer s H vs Q E hr h => ⟨_, (pss_cons (ps_set (i := 1) sc_l_sizes_right.nd rfl (.inl rfl) (pe_lst (pa_cons pe_int (pa_cons pe_int (pa_cons pe_int (pa_cons pe_int (pa_cons (pe_un un_neg pe_int) (pa_cons pe_bl (pa_cons pe_str (pa_cons pe_non (pa_cons (pe_op op_addI pe_int (pe_op op_modI (pe_callB call_abs (by rfl) T.z_abs (by decide +kernel) (pa_cons (pe_call (ok_l_at T) (hr.mono (by decide)) (by rfl) T.m__law_at T.F_l_at.kp T.b_l_at .nil pass0 (pa_cons (pv 0) (pa_cons pe_int pa_nil))) pa_nil)) pe_int)) (pa_cons (pe_lst (pa_cons pe_int pa_nil)) (pa_cons (pe_tup (pa_cons pe_int pa_nil)) pa_nil)))))))))))))
  (pss_cons (ps_set (i := 2) sc_l_sizes_right.nd rfl (.inl rfl) (pe_ix (ix_listK (K := K) rfl) (pv 1) (pe_op op_modI (pe_call (ok_l_at T) (hr.mono (by decide)) (by rfl) T.m__law_at T.F_l_at.kp T.b_l_at .nil pass0 (pa_cons (pv 0) (pa_cons pe_int pa_nil))) pe_int) (fun _ _ => rfl)))
  (pss_cons (ps_set (i := 3) sc_l_sizes_right.nd rfl (.inl rfl) (pe_ix (ix_listK (K := K) rfl) (pe_lst (pa_cons pe_int (pa_cons pe_int (pa_cons pe_int (pa_cons pe_int (pa_cons (pe_un un_neg pe_int) (pa_cons pe_bl (pa_cons pe_str (pa_cons pe_non (pa_cons (pe_op op_modI (pe_callB call_abs (by rfl) T.z_abs (by decide +kernel) (pa_cons (pe_call (ok_l_at T) (hr.mono (by decide)) (by rfl) T.m__law_at T.F_l_at.kp T.b_l_at .nil pass0 (pa_cons (pv 0) (pa_cons pe_int pa_nil))) pa_nil)) pe_int) (pa_cons (pe_lst (pa_cons pe_int pa_nil)) (pa_cons (pe_tup (pa_cons pe_int pa_nil)) pa_nil)))))))))))) (pe_op op_modI (pe_call (ok_l_at T) (hr.mono (by decide)) (by rfl) T.m__law_at T.F_l_at.kp T.b_l_at .nil pass0 (pa_cons (pv 0) (pa_cons pe_int pa_nil))) pe_int) (fun _ _ => rfl)))
  (pss_one (ps_ret (pe_cmpR op_eq (pe_call (ok_l_new T) (hr.mono (by decide)) (by rfl) T.m__law_new T.F_l_new.kp T.b_l_new .nil pass0 (pa_cons (pv 2) (pa_cons (pv 3) pa_nil))) (pe_ix (ix_listK (K := K) rfl) (pe_lst (pa_cons pe_str (pa_cons pe_str pa_nil))) (pe_callTy call_int1 (by rfl) T.z_int (by decide +kernel) (pa_cons (pe_call (ok_l_sized T) (hr.mono (by decide)) (by rfl) T.m__law_sized T.F_l_sized.kp T.b_l_sized .nil pass0 (pa_cons (pv 2) (pa_cons (pv 3) pa_nil))) pa_nil)) (fun _ _ => rfl)) (nomark _))))))), ?_⟩)
  obtain ⟨a, ns, rfl, hS, hl, k⟩ := h
  walk_at "rd"
  refine ⟨a, ns, 0, rfl, hS, hl, fun H1 s1 => ?_⟩
  walk_at "rd"
  generalize (1 + (if cell ns 0 < 0 then -cell ns 0 else cell ns 0) % 400) = z0
  refine ⟨by show 1 ≤ sizeLine; decide, fun t1 n1 => ?_⟩
  have s2 := same_upd (o := .lst [V.int 5]) n1
  walk_at "rd"
  refine ⟨by show 1 ≤ sizeLine; decide, fun t2 n2 => ?_⟩
  have s3 := same_upd (o := .tup [V.int 7]) n2
  walk_at "rd"
  refine ⟨by show 11 ≤ sizeLine; decide, fun l nl => ?_⟩
  have s4 := same_upd (o := .lst [V.int 1, V.int 400, V.int 401, V.int 0, V.int (-1), V.bl true, V.str "7", V.non, V.int z0, V.ref t1, V.ref t2]) nl
  have f1 := s4 _ _ (s3 t1 _ upd_same)
  have f2 := s4 t2 _ upd_same
  have fl := upd_same (H := upd (upd H1 t1 (.lst [V.int 5])) t2 (.tup [V.int 7])) (a := l) (o := .lst [V.int 1, V.int 400, V.int 401, V.int 0, V.int (-1), V.bl true, V.str "7", V.non, V.int z0, V.ref t1, V.ref t2])
  have S4 := s1.trans (s2.trans (s3.trans s4))
  revert f1 f2 fl S4
  generalize upd (upd (upd H1 t1 (.lst [V.int 5])) t2 (.tup [V.int 7])) l (.lst [V.int 1, V.int 400, V.int 401, V.int 0, V.int (-1), V.bl true, V.str "7", V.non, V.int z0, V.ref t1, V.ref t2]) = G
  intro f1 f2 fl S4
  clear s4 s3 s2
  walk_at "rd"
  refine ⟨a, ns, 0, rfl, S4.seq hS, hl, fun H2 s5 => ?_⟩
  obtain ⟨c, ec, hc⟩ := mod_nat (n := 11) (cell ns 0) (by decide)
  have kv : ∀ v ∈ ([V.int 1, V.int 400, V.int 401, V.int 0, V.int (-1), V.bl true, V.str "7", V.non, V.int z0, V.ref t1, V.ref t2] : List V), Kv H2 v := fun v hv => by
    simp only [List.mem_cons, List.not_mem_nil, or_false] at hv
    rcases hv with rfl | rfl | rfl | rfl | rfl | rfl | rfl | rfl | rfl | rfl | rfl
    all_goals first | exact .int _ | exact .bl _ | exact .non | exact .str _ | exact .lst (s5 _ _ f1) | exact .tup (s5 _ _ f2)
  have g : ([V.int 1, V.int 400, V.int 401, V.int 0, V.int (-1), V.bl true, V.str "7", V.non, V.int z0, V.ref t1, V.ref t2] : List V)[c]? = some ([V.int 1, V.int 400, V.int 401, V.int 0, V.int (-1), V.bl true, V.str "7", V.non, V.int z0, V.ref t1, V.ref t2] : List V)[c] := List.getElem?_eq_getElem hc
  have kv := kv _ (List.getElem_mem hc)
  have fl2 := s5 _ _ fl
  have S5 := S4.trans s5
  revert g kv fl2
  generalize ([V.int 1, V.int 400, V.int 401, V.int 0, V.int (-1), V.bl true, V.str "7", V.non, V.int z0, V.ref t1, V.ref t2] : List V)[c] = v
  generalize ([V.int 1, V.int 400, V.int 401, V.int 0, V.int (-1), V.bl true, V.str "7", V.non, V.int z0, V.ref t1, V.ref t2] : List V) = L
  intro g kv fl2
  clear f1 f2 fl s5 S4 s1
  walk_at "rd"
  rw [show cell ns 0 % 11 = (c : Int) from ec]
  refine ⟨l, L, (c : Int), v, rfl, rfl, .of fl2, atI_nat g, ?_⟩
  walk_at "rd"
  refine ⟨a, ns, 1, rfl, S5.seq hS, hl, fun H3 s6 => ?_⟩
  walk_at "rd"
  generalize ((if cell ns 1 < 0 then -cell ns 1 else cell ns 1) % 21) = z1
  refine ⟨by show 1 ≤ sizeLine; decide, fun t3 n3 => ?_⟩
  have s7 := same_upd (o := .lst [V.int 0]) n3
  walk_at "rd"
  refine ⟨by show 1 ≤ sizeLine; decide, fun t4 n4 => ?_⟩
  have s8 := same_upd (o := .tup [V.int 1]) n4
  walk_at "rd"
  refine ⟨by show 11 ≤ sizeLine; decide, fun l2 nl2 => ?_⟩
  have s9 := same_upd (o := .lst [V.int 0, V.int 20, V.int 21, V.int 1, V.int (-1), V.bl false, V.str "0", V.non, V.int z1, V.ref t3, V.ref t4]) nl2
  have f1 := s9 _ _ (s8 t3 _ upd_same)
  have f2 := s9 t4 _ upd_same
  have fl := upd_same (H := upd (upd H3 t3 (.lst [V.int 0])) t4 (.tup [V.int 1])) (a := l2) (o := .lst [V.int 0, V.int 20, V.int 21, V.int 1, V.int (-1), V.bl false, V.str "0", V.non, V.int z1, V.ref t3, V.ref t4])
  have S9 := S5.trans (s6.trans (s7.trans (s8.trans s9)))
  have T9 := s6.trans (s7.trans (s8.trans s9))
  revert f1 f2 fl S9 T9
  generalize upd (upd (upd H3 t3 (.lst [V.int 0])) t4 (.tup [V.int 1])) l2 (.lst [V.int 0, V.int 20, V.int 21, V.int 1, V.int (-1), V.bl false, V.str "0", V.non, V.int z1, V.ref t3, V.ref t4]) = G
  intro f1 f2 fl S9 T9
  clear s9 s8 s7
  walk_at "rd"
  refine ⟨a, ns, 1, rfl, S9.seq hS, hl, fun H4 s10 => ?_⟩
  obtain ⟨c2, ec2, hc2⟩ := mod_nat (n := 11) (cell ns 1) (by decide)
  have ku : ∀ v ∈ ([V.int 0, V.int 20, V.int 21, V.int 1, V.int (-1), V.bl false, V.str "0", V.non, V.int z1, V.ref t3, V.ref t4] : List V), Kv H4 v := fun v hv => by
    simp only [List.mem_cons, List.not_mem_nil, or_false] at hv
    rcases hv with rfl | rfl | rfl | rfl | rfl | rfl | rfl | rfl | rfl | rfl | rfl
    all_goals first | exact .int _ | exact .bl _ | exact .non | exact .str _ | exact .lst (s10 _ _ f1) | exact .tup (s10 _ _ f2)
  have g2 : ([V.int 0, V.int 20, V.int 21, V.int 1, V.int (-1), V.bl false, V.str "0", V.non, V.int z1, V.ref t3, V.ref t4] : List V)[c2]? = some ([V.int 0, V.int 20, V.int 21, V.int 1, V.int (-1), V.bl false, V.str "0", V.non, V.int z1, V.ref t3, V.ref t4] : List V)[c2] := List.getElem?_eq_getElem hc2
  have ku := ku _ (List.getElem_mem hc2)
  have fl3 := s10 _ _ fl
  have S10 := S9.trans s10
  have kv := kv.same (T9.trans s10)
  revert g2 ku fl3
  generalize ([V.int 0, V.int 20, V.int 21, V.int 1, V.int (-1), V.bl false, V.str "0", V.non, V.int z1, V.ref t3, V.ref t4] : List V)[c2] = u
  generalize ([V.int 0, V.int 20, V.int 21, V.int 1, V.int (-1), V.bl false, V.str "0", V.non, V.int z1, V.ref t3, V.ref t4] : List V) = L2
  intro g2 ku fl3
  clear f1 f2 fl s10 S9 s6 T9
  walk_at "rd"
  rw [show cell ns 1 % 11 = (c2 : Int) from ec2]
  refine ⟨l2, L2, (c2 : Int), u, rfl, rfl, .of fl3, atI_nat g2, ?_⟩
  walk_at "rd"
  refine ⟨kv, ku, fun H5 s11 => ?_⟩
  walk_at "rd"
  refine ⟨by show 2 ≤ sizeLine; decide, fun q nq => ?_⟩
  have s12 := same_upd (o := .lst [V.str "size", V.str "made"]) nq
  walk_at "rd"
  refine ⟨kv.same (s11.trans s12), ku.same (s11.trans s12), ?_⟩
  walk_at "rd"
  refine .inr ⟨_, rfl, ?_⟩
  have kq := k _ (S10.trans (s11.trans s12))
  by_cases hz : sized v u = true
  · rw [if_pos hz, if_pos hz]
    refine ⟨q, _, 1, .str "made", rfl, rfl, .of upd_same, rfl, ?_⟩
    exact ⟨rfl, by rw [decide_eq_true rfl]; exact kq⟩
  · rw [if_neg hz, if_neg hz]
    refine ⟨q, _, 0, .str "size", rfl, rfl, .of upd_same, rfl, ?_⟩
    exact ⟨rfl, by rw [decide_eq_true rfl]; exact kq⟩
theorem enc0 : enc bx0 12 = [8, 0, 0, 8, 10, 1, 0, 0, 0, 0, 0, 0] := by decide
theorem row_behind {ths : List Th} : ∀ i, ((ths.take i).map (wordT (pg bx0))).length ≤ ths.length := fun i => by
  rw [List.length_map, List.length_take]
  omega
/-! #### _law_behind -/
def sp_l_behind (K : PySem.W.Frag) : Sp := fun vs H Q _ => ∃ (l : Addr) (ths : List Th) (c : Int) (v u : V), vs = [.int c, .ref l, v, u] ∧ FieldsAt H l (ths.map (toPl bx0)) ∧ ths.length ≤ 9 ∧
    ((c = 0 ∧ ∀ q H', Same H H' → H' q = some (.lst (((enc bx0 12).take 6 ++ ((4 * (ths.length : Int)) :: ths.map (wordT (pg bx0))) ++ (enc bx0 12).drop (7 + ths.length)).map V.int)) → Q (.ref q) H') ∨
     (c = 1 ∧ ∃ (i f : Nat) (th : Th), v = .int (plT bx0 i) ∧ u = .int f ∧ i < 2 ∧ f < 2 ∧ ths = [th] ∧ ∀ q H', Same H H' → H' q = some (.lst (((enc bx0 12).set (plT bx0 i + 1 + f) (wordT (pg bx0) th)).map V.int)) → Q (.ref q) H'))
theorem ok_l_behind (T : Txt K mg A) : FnOk P w K mg base CX0 1 A.f_l_behind A.d_l_behind ["_law_call", "_law_things_here", "_law_place", "_law_field"] (sp_l_behind K) := by
  refine T.F_l_behind.ok sc_l_behind (fun vs H Q E h => by obtain ⟨l, ths, c, v, u, rfl, hF, hlen, hk⟩ := h; rfl) (fun cdv A' outer s H vs Q E hr h => ⟨_, (pss_cons (ps_set (i := 4) sc_l_behind.nd rfl (.inl rfl) (pe_lst (pa_cons pe_int (pa_cons pe_int (pa_cons pe_int (pa_cons pe_int (pa_cons pe_int (pa_cons pe_int (pa_cons pe_int (pa_cons pe_int (pa_cons pe_int (pa_cons pe_int (pa_cons pe_int (pa_cons pe_int pa_nil))))))))))))))
  (pss_cons (ps_set (i := 5) sc_l_behind.nd rfl (.inl rfl) (pe_lst pa_nil))
  (pss_cons (ps_for PassesOwn.never rfl (pi_listK (K := K) rfl (pv 1)) (pg_name (i := 6) sc_l_behind.nd rfl (.inl rfl))
  (pss_one (ps_expr (pe_bm PySem.F.plainAttrs_list PySem.F.slot_list_append PySem.F.type_list_append mt_append (pv 5) (pa_cons (pe_op op_addI (pe_op op_mulI pe_int (pe_ix (ix_tupK (K := K) rfl) (pv 6) pe_int (fun _ _ => rfl))) (pe_callTy call_int1 (by rfl) T.z_int (by decide +kernel) (pa_cons (pe_cmpR op_eq (pe_ix (ix_tupK (K := K) rfl) (pv 6) pe_int (fun _ _ => rfl)) pe_str (nomark _)) pa_nil))) pa_nil)))))
  (pss_cons (ps_if (pt_cmpR op_eq (pv 0) pe_int (nomark _))
  (pss_one (ps_ret (pe_op op_cat (pe_op op_cat (pe_op op_cat (pe_slice (sl_listK (K := K) rfl) (pv 4) po_none (po_some pe_int)) (pe_lst (pa_cons (pe_op op_mulI pe_int (pe_callB (call_lenK (K := K) rfl) (by rfl) T.z_len (by decide +kernel) (pa_cons (pv 5) pa_nil))) pa_nil))) (pv 5)) (pe_slice (sl_listK (K := K) rfl) (pv 4) (po_some (pe_op op_addI pe_int (pe_callB (call_lenK (K := K) rfl) (by rfl) T.z_len (by decide +kernel) (pa_cons (pv 5) pa_nil)))) po_none))))
  pss_nil)
  (Evl.pss_cut (ps_if (pt_cmpR op_eq (pv 0) pe_int (nomark _))
  (pss_one (ps_asg (pe_ix (ix_listK (K := K) rfl) (pv 5) pe_int (fun _ _ => rfl)) (pg_sub (pv 4) (pe_op op_addI (pe_op op_addI (pv 2) pe_int) (pv 3)) set_list)))
  pss_nil)
  (pss_one (ps_ret (pv 4)))))))), ?_⟩)
  obtain ⟨l, ths, c, v, u, rfl, hF, hlen, hk⟩ := h
  walk_at "rd"
  refine ⟨by show 12 ≤ sizeLine; decide, fun a na => ?_⟩
  have s1 := same_upd (o := .lst [V.int 8, V.int 0, V.int 0, V.int 8, V.int 10, V.int 1, V.int 0, V.int 0, V.int 0, V.int 0, V.int 0, V.int 0]) na
  have ea : (upd H a (.lst [V.int 8, V.int 0, V.int 0, V.int 8, V.int 10, V.int 1, V.int 0, V.int 0, V.int 0, V.int 0, V.int 0, V.int 0])) a = some (.lst ((enc bx0 12).map V.int)) := by
    rw [upd_same, enc0]
    rfl
  revert s1 ea
  generalize upd H a (.lst [V.int 8, V.int 0, V.int 0, V.int 8, V.int 10, V.int 1, V.int 0, V.int 0, V.int 0, V.int 0, V.int 0, V.int 0]) = G
  intro s1 ea
  walk_at "rd"
  refine ⟨by show 0 ≤ sizeLine; decide, fun wl nw => ?_⟩
  obtain ⟨ts, el, hl, hts⟩ := id (hF.same s1)
  have nlw : l ≠ wl := fun z => by rw [← z, el] at nw; cases nw
  walk_at "rd"
  refine ⟨⟨_, .of ((same_upd nw) _ _ el)⟩, for_list (K := K) (a := l) (xs := ts.map V.ref) (fun i σ' H' => ∃ y : Option V, σ' = [some (.int c), some (.ref l), some v, some u, some (.ref a), some (.ref wl), y] ∧ Same G H' ∧ H' wl = some (.lst (((ths.take i).map (wordT (pg bx0))).map V.int))) ⟨none, rfl, same_upd nw, upd_same⟩ (fun i σ' H' _ ⟨_, _, S, _⟩ => .of (S _ _ el)) ?_ ?_⟩
  · rintro i x σ' H' hx ⟨y, rfl, S, ew⟩
    obtain ⟨t, ht, rfl⟩ := ref_get hx
    have hi : i < ths.length := by
      have := (List.getElem?_eq_some_iff.mp ht).1
      rw [hl, List.length_map] at this
      exact this
    have eth : ths[i]? = some ths[i] := List.getElem?_eq_getElem hi
    have et := S _ _ (hts i t (toPl bx0 ths[i]) ht (by rw [List.getElem?_map, eth]; rfl))
    have nx : ths.take (i + 1) = ths.take i ++ [ths[i]] := by
      rw [List.take_add_one, eth]
      rfl
    rw [nx, List.map_append, List.map_append]
    generalize ths[i] = th at et
    walk_at "rd"
    refine ⟨.inl ⟨rfl, _, .of ew⟩, ?_⟩
    have hb : ∀ H2 : Hp, Same H' H2 → ∀ x : Int, x = wordT (pg bx0) th → ∃ zs, H2 wl = some (.lst zs) ∧ zs.length < 2001 := fun H2 s2 x e => ⟨_, s2 _ _ ew, by rw [List.length_map]; have := row_behind (ths := ths) i; omega⟩
    clear hb
    have end1 : ∀ x : Int, x = wordT (pg bx0) th → (rAppend (.ref wl) [.int x] H' fun x H1 => ∃ y, ([some (.int c), some (.ref l), some v, some u, some (.ref a), some (.ref wl), some (V.ref t)] : L2.St) = [some (.int c), some (.ref l), some v, some u, some (.ref a), some (.ref wl), y] ∧ Same G H1 ∧ H1 wl = some (.lst (((ths.take i).map (wordT (pg bx0))).map V.int ++ ([th].map (wordT (pg bx0))).map V.int))) := fun x e => by
      refine ⟨wl, _, _, rfl, rfl, ew, sz2001 (by rw [List.length_map]; have := row_behind (ths := ths) i; omega), ?_⟩
      refine ⟨_, rfl, same_mut nw S, ?_⟩
      rw [upd_same, e]
      rfl
    cases th with
    | num n =>
      walk_at "rd"
      refine ⟨t, _, 1, _, rfl, rfl, .of et, rfl, ?_⟩
      walk_at "rd"
      refine ⟨t, _, 0, _, rfl, rfl, .of et, rfl, ?_⟩
      walk_at "rd"
      refine .inr ⟨_, rfl, ?_⟩
      walk_at "rd"
      refine end1 _ ?_
      rw [decide_eq_false (by decide +kernel)]
      show 2 * n + 0 = 2 * n
      omega
    | box q =>
      walk_at "rd"
      refine ⟨t, _, 1, _, rfl, rfl, .of et, rfl, ?_⟩
      walk_at "rd"
      refine ⟨t, _, 0, _, rfl, rfl, .of et, rfl, ?_⟩
      walk_at "rd"
      refine .inr ⟨_, rfl, ?_⟩
      walk_at "rd"
      refine end1 _ ?_
      rw [decide_eq_true rfl]
      rfl
  rintro σ' H1 ⟨y, rfl, S, ew⟩
  rw [List.length_map, hl, List.length_map, List.take_length] at ew
  have ea1 := S _ _ ea
  have lw : (ths.map (wordT (pg bx0))).length = ths.length := List.length_map _
  rcases hk with ⟨rfl, k⟩ | ⟨rfl, i, f, th, rfl, rfl, hi, hf, rfl, k⟩
  · walk_at "rd"
    refine ⟨a, _, rfl, .of ea1, fun p1 hp1 => ?_⟩
    have s2 := same_upd (o := .lst (cutV ((enc bx0 12).map V.int) none (some 6))) hp1
    have e1 : (upd H1 p1 (.lst (cutV ((enc bx0 12).map V.int) none (some 6)))) p1 = some (.lst (((enc bx0 12).take 6).map V.int)) := by
      rw [upd_same, show (6 : Int) = ((6 : Nat) : Int) from rfl, cut_take, List.map_take]
    revert s2 e1
    generalize upd H1 p1 (.lst (cutV ((enc bx0 12).map V.int) none (some 6))) = H2
    intro s2 e1
    walk_at "rd"
    refine ⟨wl, _, rfl, .inl (.of (s2 _ _ ew)), ?_⟩
    rw [List.length_map, lw]
    walk_at "rd"
    refine ⟨by show 1 ≤ sizeLine; decide, fun p2 hp2 => ?_⟩
    have s3 := same_upd (o := .lst [V.int (4 * (ths.length : Int))]) hp2
    walk_at "rd"
    have e12 : (enc bx0 12).length = 12 := rfl
    refine ⟨p1, p2, _, _, rfl, rfl, s3 _ _ e1, upd_same, sz2000 (by rw [List.length_map, List.length_take, e12]; show 6 + 1 ≤ _; decide), fun p3 hp3 => ?_⟩
    have s4 := same_upd (o := .lst (((enc bx0 12).take 6).map V.int ++ [V.int (4 * (ths.length : Int))])) hp3
    have S4 := s2.trans (s3.trans s4)
    have e3 : (upd (upd H2 p2 (.lst [V.int (4 * (ths.length : Int))])) p3 (.lst (((enc bx0 12).take 6).map V.int ++ [V.int (4 * (ths.length : Int))]))) p3 = some (.lst (((enc bx0 12).take 6).map V.int ++ [V.int (4 * (ths.length : Int))])) := upd_same
    revert S4 e3
    generalize upd (upd H2 p2 (.lst [V.int (4 * (ths.length : Int))])) p3 (.lst (((enc bx0 12).take 6).map V.int ++ [V.int (4 * (ths.length : Int))])) = H3
    intro S4 e3
    clear s2 s3 s4 hp3 hp2 hp1 e1
    walk_at "rd"
    refine ⟨p3, wl, _, _, rfl, rfl, e3, S4 _ _ ew, sz2000 (by rw [List.length_append, List.length_map, List.length_take, e12, List.length_map, lw]; show 6 + 1 + _ ≤ _; omega), fun p4 hp4 => ?_⟩
    have s5 := same_upd (o := .lst (((enc bx0 12).take 6).map V.int ++ [V.int (4 * (ths.length : Int))] ++ (ths.map (wordT (pg bx0))).map V.int)) hp4
    have S5 := S4.trans s5
    have e4 : (upd H3 p4 (.lst (((enc bx0 12).take 6).map V.int ++ [V.int (4 * (ths.length : Int))] ++ (ths.map (wordT (pg bx0))).map V.int))) p4 = some (.lst (((enc bx0 12).take 6).map V.int ++ [V.int (4 * (ths.length : Int))] ++ (ths.map (wordT (pg bx0))).map V.int)) := upd_same
    revert S5 e4
    generalize upd H3 p4 (.lst (((enc bx0 12).take 6).map V.int ++ [V.int (4 * (ths.length : Int))] ++ (ths.map (wordT (pg bx0))).map V.int)) = H4
    intro S5 e4
    clear S4 s5 e3
    walk_at "rd"
    refine ⟨wl, _, rfl, .inl (.of (S5 _ _ ew)), ?_⟩
    rw [List.length_map, lw]
    walk_at "rd"
    rw [show (7 : Int) + (ths.length : Int) = ((7 + ths.length : Nat) : Int) by omega]
    refine ⟨a, _, rfl, .of (S5 _ _ ea1), fun p5 hp5 => ?_⟩
    rw [cut_drop]
    have s6 := same_upd (o := .lst (((enc bx0 12).map V.int).drop (7 + ths.length))) hp5
    refine ⟨p4, p5, _, _, rfl, rfl, s6 _ _ e4, upd_same, sz2000 (by rw [List.length_append, List.length_append, List.length_map, List.length_take, e12, List.length_map, lw, List.length_drop, List.length_map, e12]; show 6 + 1 + _ + _ ≤ _; omega), fun p6 hp6 => ?_⟩
    refine k _ _ (s1.trans (S.trans (S5.trans (s6.trans (same_upd hp6))))) ?_
    rw [upd_same, List.map_append, List.map_append, List.map_drop]
    simp
  · walk_at "rd"
    refine ifF (decide_eq_false fun z => absurd (V.int.inj z) (by decide)) ?_
    refine ⟨fun σ' H2 => σ' = ([some (.int 1), some (.ref l), some (.int (plT bx0 i)), some (.int f), some (.ref a), some (.ref wl), y] : L2.St) ∧ Same H H2 ∧ H2 a = some (.lst (((enc bx0 12).set (plT bx0 i + 1 + f) (wordT (pg bx0) th)).map V.int)), ?_, ?_⟩
    · walk_at "rd"
      refine ⟨wl, _, 0, .int (wordT (pg bx0) th), rfl, rfl, .of ew, rfl, ?_⟩
      walk_at "rd"
      have hj : plT bx0 i + 1 + f < 12 := by
        have : plT bx0 i = 0 ∨ plT bx0 i = 3 := bx0_pl i hi
        omega
      rw [show (plT bx0 i : Int) + 1 + (f : Int) = ((plT bx0 i + 1 + f : Nat) : Int) by omega]
      refine ⟨a, _, _, plT bx0 i + 1 + f, rfl, rfl, ea1, ix_nat (xs := enc bx0 12) hj, ?_⟩
      refine ⟨rfl, same_mut na (s1.trans S), ?_⟩
      rw [upd_same, List.map_set]
    · rintro σ' H2 ⟨rfl, S2, e2⟩
      walk_at "rd"
      exact k _ _ S2 e2
/-- a thing, as data -/
def thD : Th → PyData
  | .num n => .tuple [.str "number", .int n]
  | .box k => .tuple [.str "box", .int (k : Int)]
theorem dp_th {K : PySem.W.Frag} {H : Hp} {t : Addr} {th : Th} (e : H t = some (.tup (thV th))) : Dp K H (.ref t) (thD th) := by
  cases th with
  | num n => exact .tup (.of e) (.cons (.str _) (.cons (.int _) .nil))
  | box k => exact .tup (.of e) (.cons (.str _) (.cons (.int _) .nil))
theorem dp_ths {K : PySem.W.Frag} {H : Hp} : ∀ {ts : List Addr} {fs : List Th}, ts.length = fs.length → (∀ (i : Nat) (t : Addr) (th : Th), ts[i]? = some t → fs[i]? = some th → H t = some (.tup (thV th))) → DpAll K H (ts.map V.ref) (fs.map thD)
  | [], [], _, _ => .nil
  | t :: ts, f :: fs, hl, h => .cons (dp_th (h 0 t f rfl rfl)) (dp_ths (by simpa using hl) fun i t th a b => h (i + 1) t th a b)
  | [], _ :: _, hl, _ => absurd hl (by simp)
  | _ :: _, [], hl, _ => absurd hl (by simp)
theorem dp_fields {K : PySem.W.Frag} {H : Hp} {l : Addr} {fs : List Th} (h : FieldsAt H l fs) : Dp K H (.ref l) (.list (fs.map thD)) := by
  obtain ⟨ts, e, hl, k⟩ := h
  exact .lst (.of e) (dp_ths hl k)
theorem th_lay (th : Th) : (thD th).canLay0 = true := by
  have h1 : PyData.strOk ("number" : Str) = true := by decide +kernel
  have h2 : PyData.strOk ("box" : Str) = true := by decide +kernel
  cases th <;> simp [thD, PyData.canLay0, PyData.canLayAll0, h1, h2]
theorem ths_lay : ∀ fs : List Th, PyData.canLayAll0 (fs.map thD) = true
  | [] => by simp [PyData.canLayAll0]
  | f :: fs => by simp [PyData.canLayAll0, th_lay f, ths_lay fs]
theorem th_depth (th : Th) : (thD th).depth ≤ 1 := by cases th <;> simp [thD, PyData.depth, PyData.depthAll]
theorem ths_depth : ∀ fs : List Th, PyData.depthAll (fs.map thD) ≤ 1
  | [] => by simp [PyData.depthAll]
  | f :: fs => by
    have h1 := ths_depth fs
    have h2 := th_depth f
    simp only [List.map_cons, PyData.depthAll]
    omega
theorem th_eqv (th : Th) : PyData.eqv (thD th) (thD th) = true := by cases th <;> simp [thD, PyData.eqv, PyData.eqvAll]
theorem ths_eqv : ∀ fs : List Th, PyData.eqvAll (fs.map thD) (fs.map thD) = true
  | [] => by simp [PyData.eqvAll]
  | f :: fs => by simp [PyData.eqvAll, th_eqv f, ths_eqv fs]
theorem fields_shaped (fs : List Th) : SeqAt.shaped (.list (fs.map thD)) = true := by
  have h1 := ths_depth fs
  show (PyData.canLay0 (.list (fs.map thD)) && decide (PyData.depth (.list (fs.map thD)) ≤ 64)) = true
  rw [Bool.and_eq_true]
  exact ⟨by simp only [PyData.canLay0]; exact ths_lay fs, decide_eq_true (by simp only [PyData.depth]; omega)⟩
theorem fields_eqv (fs : List Th) : PyData.eqv (.list (fs.map thD)) (.list (fs.map thD)) = true := by
  simp only [PyData.eqv]
  exact ths_eqv fs
theorem fields1 {H : Hp} {l t : Addr} {th : Th} (e : H l = some (.lst [.ref t])) (h : H t = some (.tup (thV th))) : FieldsAt H l [th] := ⟨[t], e, rfl, fun i t' th' a b => by
  match i, a, b with
  | 0, a, b =>
    cases Option.some.inj (show some t = some t' from a)
    cases Option.some.inj (show some th = some th' from b)
    exact h
  | i + 1, a, _ => exact absurd a (by simp)⟩
theorem fields2 {H : Hp} {l t u : Addr} {th ph : Th} (e : H l = some (.lst [.ref t, .ref u])) (h : H t = some (.tup (thV th))) (h2 : H u = some (.tup (thV ph))) : FieldsAt H l [th, ph] := ⟨[t, u], e, rfl, fun i t' th' a b => by
  match i, a, b with
  | 0, a, b =>
    cases Option.some.inj (show some t = some t' from a)
    cases Option.some.inj (show some th = some th' from b)
    exact h
  | 1, a, b =>
    cases Option.some.inj (show some u = some t' from a)
    cases Option.some.inj (show some ph = some th' from b)
    exact h2
  | i + 2, a, _ => exact absurd a (by simp)⟩
/-! #### _law_sound -/
def sp_l_sound (K : PySem.W.Frag) (A : Adr) : Sp := fun vs H Q _ => ∃ (p l r : Addr) (bxs : List (List Th)), vs = [.ref p, .ref l, .int (sizeT bxs)] ∧ RoomAt A.c_Room H p r bxs 12 ∧ RoomOk bxs 12 ∧ H l = some (.lst ((enc bxs 12).map V.int)) ∧ placesT 0 bxs = [0, 3] ++ (if 6 < sizeT bxs then [6] else []) ∧ ∀ H', Q (.bl true) H'
theorem ok_l_sound (T : Txt K mg A) : FnOk P w K mg base CX0 6 A.f_l_sound A.d_l_sound ["_law_room", "_law_cells", "_law_used"] (sp_l_sound K A) := by
  refine T.F_l_sound.ok sc_l_sound (fun vs H Q E h => by obtain ⟨p, l, r, bxs, rfl, R, ok, el, hpl, k⟩ := h; rfl) (fun cdv A' outer s H vs Q E hr h => ⟨_, (pss_cons (ps_set (i := 3) sc_l_sound.nd rfl (.inl rfl) (pe_op op_cat (pe_lst (pa_cons pe_int (pa_cons pe_int pa_nil))) (pe_op op_rep (pe_lst (pa_cons pe_int pa_nil)) (pe_callTy call_int1 (by rfl) T.z_int (by decide +kernel) (pa_cons (pe_cmpR op_gtI (pv 2) pe_int (nomark _)) pa_nil)))))
  (pss_cons (ps_if (PW.pt (pw_or (pt_not (pt_val (pe_call (ok_l_words_are T) (hr.mono (by decide)) (by rfl) T.m__law_words_are T.F_l_words_are.kp T.b_l_words_are .nil pass0 (pa_cons (pe_meth0 (pv 0) T.clR T.me_Rcells (ok_Rcells T) (hr.mono (by decide)) T.b_Rcells .nil pass0) (pa_cons (pv 1) pa_nil))))) (pw_or1 (pt_not (pt_val (pe_call (ok_l_words_are T) (hr.mono (by decide)) (by rfl) T.m__law_words_are T.F_l_words_are.kp T.b_l_words_are .nil pass0 (pa_cons (pe_lst (pa_cons (pe_meth0 (pv 0) T.clR T.me_Rused (ok_Rused T) (hr.mono (by decide)) T.b_Rused .nil pass0) pa_nil)) (pa_cons (pe_lst (pa_cons (pv 2) pa_nil)) pa_nil))))))))
  (pss_one (ps_ret pe_bl))
  pss_nil)
  (pss_cons (ps_if (pt_not (pt_val (pe_call (ok_l_words_are T) (hr.mono (by decide)) (by rfl) T.m__law_words_are T.F_l_words_are.kp T.b_l_words_are .nil pass0 (pa_cons (pe_meth0 (pv 0) T.clR T.me_Rplaces (ok_Rplaces T) (hr.mono (by decide)) T.b_Rplaces .nil pass0) (pa_cons (pv 3) pa_nil)))))
  (pss_one (ps_ret pe_bl))
  pss_nil)
  (pss_cons (ps_if (pt_cmpR op_gtI (pv 2) pe_int (nomark _))
  (pss_one (ps_ret pe_bl))
  pss_nil)
  (pss_cons (ps_set (i := 4) sc_l_sound.nd rfl (.inl rfl) (pe_meth (pv 0) T.clR T.me_Rmade (ok_Rmade T) (hr.mono (by decide)) T.b_Rmade .nil passL (pa_cons (pe_lst (pa_cons (pe_tup (pa_cons pe_str (pa_cons pe_int pa_nil))) pa_nil)) pa_nil)))
  (pss_cons (ps_if (PW.pt (pw_or (pt_not (pt_val (pe_call (ok_l_words_are T) (hr.mono (by decide)) (by rfl) T.m__law_words_are T.F_l_words_are.kp T.b_l_words_are .nil pass0 (pa_cons (pe_lst (pa_cons (pv 4) (pa_cons (pe_meth0 (pv 0) T.clR T.me_Rused (ok_Rused T) (hr.mono (by decide)) T.b_Rused .nil pass0) pa_nil))) (pa_cons (pe_lst (pa_cons (pv 2) (pa_cons (pe_op op_addI (pv 2) pe_int) pa_nil))) pa_nil))))) (pw_or1 (pt_cmpR (op_neDK (K := K) rfl hr.units) (pe_meth (pv 0) T.clR T.me_Rtold (ok_Rtold T) (hr.mono (by decide)) T.b_Rtold .nil pass0 (pa_cons (pv 4) pa_nil)) (pe_lst (pa_cons (pe_tup (pa_cons pe_str (pa_cons pe_int pa_nil))) pa_nil)) (nomark _)))))
  (pss_one (ps_ret pe_bl))
  pss_nil)
  (pss_one (ps_ret (pe_call (ok_l_words_are T) (hr.mono (by decide)) (by rfl) T.m__law_words_are T.F_l_words_are.kp T.b_l_words_are .nil pass0 (pa_cons (pe_meth0 (pv 0) T.clR T.me_Rcells (ok_Rcells T) (hr.mono (by decide)) T.b_Rcells .nil pass0) (pa_cons (pe_op op_cat (pe_op op_cat (pe_slice (sl_listK (K := K) rfl) (pv 1) po_none (po_some (pv 2))) (pe_lst (pa_cons pe_int (pa_cons pe_int pa_nil)))) (pe_slice (sl_listK (K := K) rfl) (pv 1) (po_some (pe_op op_addI (pv 2) pe_int)) po_none)) pa_nil))))))))))), ?_⟩)
  obtain ⟨p, l, r, bxs, rfl, R, ok, el, hpl, k⟩ := h
  obtain ⟨⟨dx, eo⟩, er⟩ := id R
  have hsz := ok.sz
  have lenc := enc_len hsz
  walk_at "rd"
  refine ⟨by show 2 ≤ sizeLine; decide, fun a1 n1 => ?_⟩
  walk_at "rd"
  refine ⟨by show 1 ≤ sizeLine; decide, fun a2 n2 => ?_⟩
  walk_at "rd"
  refine .inr ⟨_, rfl, ?_⟩
  have n12 : a1 ≠ a2 := fun z => by rw [← z, upd_same] at n2; cases n2
  have s1 := same_upd (o := .lst [V.int 0, V.int 3]) n1
  have s2 := same_upd (o := .lst [V.int 6]) n2
  have e1 := s2 a1 _ upd_same
  have e2 := upd_same (H := upd H a1 (.lst [V.int 0, V.int 3])) (a := a2) (o := .lst [V.int 6])
  have S2 := s1.trans s2
  revert e1 e2 S2
  generalize upd (upd H a1 (.lst [V.int 0, V.int 3])) a2 (.lst [V.int 6]) = H2
  intro e1 e2 S2
  clear s1 s2 n1 n2
  obtain ⟨z, hz, hz2⟩ : ∃ z : Nat, (if (decide ((6 : Int) < (sizeT bxs : Int))) = true then (1 : Int) else 0) = (z : Int) ∧ (List.replicate z [V.int 6]).flatten = (if 6 < sizeT bxs then [V.int 6] else []) := by
    by_cases c : 6 < sizeT bxs
    · exact ⟨1, by rw [if_pos (decide_eq_true (by omega))]; rfl, by rw [if_pos c]; rfl⟩
    · exact ⟨0, by rw [if_neg (by rw [decide_eq_false (by omega)]; decide)]; rfl, by rw [if_neg c]; rfl⟩
  rw [hz]
  refine ⟨a2, _, _, rfl, rfl, e2, by omega, by omega, sz2000 (by rw [Int.toNat_natCast]; show 1 * z ≤ _; have : z ≤ 1 := by { have := hz; split at this <;> omega }
                                                                 omega), fun a3 n3 => ?_⟩
  rw [Int.toNat_natCast, hz2]
  have n13 : a1 ≠ a3 := fun z => by rw [← z, e1] at n3; cases n3
  refine ⟨a1, a3, _, _, rfl, rfl, by rw [upd_ne n13]; exact e1, upd_same, sz2000 (by show 2 + _ ≤ _; split <;> simp), fun q nq => ?_⟩
  have S3 := S2.trans ((same_upd (o := .lst (if 6 < sizeT bxs then [V.int 6] else [])) n3).trans (same_upd (o := .lst ([V.int 0, V.int 3] ++ (if 6 < sizeT bxs then [V.int 6] else []))) nq))
  have eq : (upd (upd H2 a3 (.lst (if 6 < sizeT bxs then [V.int 6] else []))) q (.lst ([V.int 0, V.int 3] ++ (if 6 < sizeT bxs then [V.int 6] else [])))) q = some (.lst (((placesT 0 bxs).map fun k => ((k : Nat) : Int)).map V.int)) := by
    rw [upd_same, hpl]
    split <;> rfl
  revert S3 eq
  generalize upd (upd H2 a3 (.lst (if 6 < sizeT bxs then [V.int 6] else []))) q (.lst ([V.int 0, V.int 3] ++ (if 6 < sizeT bxs then [V.int 6] else []))) = H3
  intro S3 eq
  clear nq n3 n13 S2 e1 e2 n12
  -- the cells
  walk_at "rd"
  refine ⟨p, dx, _, rfl, S3 _ _ eo, rmf_no _ _ (by decide +kernel) (by decide +kernel), ?_⟩
  walk_at "rd"
  refine ⟨p, r, bxs, 12, rfl, R.same S3, fun c1 m1 => ?_⟩
  have t1 := same_upd (o := .lst ((enc bxs 12).map V.int)) m1
  walk_at "rd"
  refine ⟨c1, l, enc bxs 12, rfl, .of upd_same, .of (S3.trans t1 _ _ el), by omega, fun H4 t2 => ?_⟩
  have S4 := S3.trans (t1.trans t2)
  have eq := t2 _ _ (t1 _ _ eq)
  clear S3 m1 t1 t2
  -- how many are used
  walk_at "rd"
  refine ⟨p, dx, _, rfl, S4 _ _ eo, rmf_no _ _ (by decide +kernel) (by decide +kernel), ?_⟩
  walk_at "rd"
  refine ⟨p, r, bxs, 12, rfl, R.same S4, ?_⟩
  walk_at "rd"
  refine ⟨by show 1 ≤ sizeLine; decide, fun c2 m2 => ?_⟩
  have t1 := same_upd (o := .lst [V.int (sizeT bxs)]) m2
  walk_at "rd"
  refine ⟨by show 1 ≤ sizeLine; decide, fun c3 m3 => ?_⟩
  have t2 := same_upd (o := .lst [V.int (sizeT bxs)]) m3
  walk_at "rd"
  refine ⟨c2, c3, [(sizeT bxs : Int)], rfl, .of (t2 _ _ upd_same), .of upd_same, by show 1 ≤ 2000; decide, fun H5 t3 => ?_⟩
  have T5 := t1.trans (t2.trans t3)
  have S5 := S4.trans T5
  have eq := T5 _ _ eq
  clear S4 T5 t1 t2 t3 m2 m3
  -- the places
  walk_at "rd"
  refine ⟨p, dx, _, rfl, S5 _ _ eo, rmf_no _ _ (by decide +kernel) (by decide +kernel), ?_⟩
  walk_at "rd"
  refine ⟨p, r, bxs, 12, rfl, R.same S5, ok, fun c4 H6 _ t1 e4 => ?_⟩
  walk_at "rd"
  refine ⟨c4, q, (placesT 0 bxs).map fun k => ((k : Nat) : Int), rfl, .of (by rw [e4, List.map_map]; rfl), .of (t1 _ _ eq), by rw [List.length_map, hpl]; split <;> simp, fun H7 t2 => ?_⟩
  have S7 := S5.trans (t1.trans t2)
  clear S5 t1 t2 eq e4
  walk_at "rd"
  by_cases c10 : 10 < sizeT bxs
  · refine ifT (decide_eq_true (by omega)) ?_
    walk_at "rd"
    exact k _
  refine ifF (decide_eq_false (by omega)) ?_
  walk_at "rd"
  refine ⟨p, dx, _, rfl, S7 _ _ eo, rmf_no _ _ (by decide +kernel) (by decide +kernel), ?_⟩
  walk_at "rd"
  refine ⟨by show 2 ≤ sizeLine; decide, fun t nt => ?_⟩
  have t1 := same_upd (o := .tup [V.str "number", V.int 4]) nt
  walk_at "rd"
  refine ⟨by show 1 ≤ sizeLine; decide, fun l1 nl1 => ?_⟩
  have t2 := same_upd (o := .lst [V.ref t]) nl1
  have S8 := S7.trans (t1.trans t2)
  have F8 : FieldsAt (upd (upd H7 t (.tup [V.str "number", V.int 4])) l1 (.lst [V.ref t])) l1 [Th.num 4] := fields1 upd_same (t2 _ _ upd_same)
  revert S8 F8
  generalize upd (upd H7 t (.tup [V.str "number", V.int 4])) l1 (.lst [V.ref t]) = H8
  intro S8 F8
  clear t1 t2 nt nl1 S7
  walk_at "rd"
  have vt : ∀ k, Th.box k ∈ [Th.num 4] → k < bxs.length := fun k hk => by simp at hk
  refine ⟨p, r, l1, bxs, 12, [Th.num 4], rfl, R.same S8, ok, F8, fun th hth => by cases (List.mem_singleton.mp hth); show (4 : Int).natAbs < 10 ^ 60; decide, vt, by decide, fun hz r' H9 hr' R9 bt => ?_, fun hz => absurd hz (by show ¬ 12 < sizeT bxs + 1 + 1; omega)⟩
  have ok9 := made_ok ok vt hz
  have e9 := enc_made ok vt hz
  obtain ⟨⟨dx9, eo9⟩, er9⟩ := id R9
  have sz9 : sizeT (bxs ++ [[Th.num 4]]) = sizeT bxs + 2 := by rw [sizeT_append]; rfl
  have nlp : l ≠ p := fun z => by rw [z, eo] at el; cases el
  have el9 := bt _ _ (S8 _ _ el) nlp
  walk_at "rd"
  refine ⟨p, dx9, _, rfl, eo9, rmf_no _ _ (by decide +kernel) (by decide +kernel), ?_⟩
  walk_at "rd"
  refine ⟨p, r', _, 12, rfl, R9, ?_⟩
  rw [sz9]
  walk_at "rd"
  refine ⟨by show 2 ≤ sizeLine; decide, fun b1 m1 => ?_⟩
  have t1 := same_upd (o := .lst [V.int (sizeT bxs), V.int ((sizeT bxs + 2 : Nat) : Int)]) m1
  walk_at "rd"
  refine ⟨by show 2 ≤ sizeLine; decide, fun b2 m2 => ?_⟩
  have t2 := same_upd (o := .lst [V.int (sizeT bxs), V.int ((sizeT bxs : Int) + 2)]) m2
  walk_at "rd"
  refine ⟨b1, b2, [(sizeT bxs : Int), (sizeT bxs : Int) + 2], rfl, .of (t2 _ _ (by rw [upd_same, show ((sizeT bxs + 2 : Nat) : Int) = (sizeT bxs : Int) + 2 by omega]; rfl)), .of upd_same, by show 2 ≤ 2000; decide, fun H10 t3 => ?_⟩
  have S10 := t1.trans (t2.trans t3)
  clear t1 t2 t3 m1 m2
  -- what is told
  walk_at "rd"
  refine ⟨p, dx9, _, rfl, S10 _ _ eo9, rmf_no _ _ (by decide +kernel) (by decide +kernel), ?_⟩
  walk_at "rd"
  have pl9 : plT (bxs ++ [[Th.num 4]]) bxs.length = sizeT bxs := by
    rw [pl_old (Nat.le_refl _)]
    show sizeT (bxs.take bxs.length) = _
    rw [List.take_length]
  refine ⟨p, r', _, 12, bxs.length, [Th.num 4], by rw [pl9]; rfl, R9.same S10, ok9, by simp, fun l3 H11 _ t1 F11 => ?_⟩
  walk_at "rd"
  refine ⟨by show 2 ≤ sizeLine; decide, fun t nt => ?_⟩
  have t2 := same_upd (o := .tup [V.str "number", V.int 4]) nt
  walk_at "rd"
  refine ⟨by show 1 ≤ sizeLine; decide, fun l4 nl4 => ?_⟩
  have t3 := same_upd (o := .lst [V.ref t]) nl4
  have F12 : FieldsAt (upd (upd H11 t (.tup [V.str "number", V.int 4])) l4 (.lst [V.ref t])) l4 [Th.num 4] := fields1 upd_same (t3 _ _ upd_same)
  have S12 := S10.trans (t1.trans (t2.trans t3))
  refine ⟨_, _, dp_fields ((F11.same t2).same t3), dp_fields F12, fields_shaped _, fields_shaped _, ?_⟩
  rw [show PyData.eqv (.list (([Th.num 4].map (toPl (bxs ++ [[Th.num 4]]))).map thD)) (.list ([Th.num 4].map thD)) = true from fields_eqv _]
  revert S12
  generalize upd (upd H11 t (.tup [V.str "number", V.int 4])) l4 (.lst [V.ref t]) = H12
  intro S12
  clear F12 F11 t1 t2 t3 nt nl4 S10
  walk_at "rd"
  refine ⟨p, dx9, _, rfl, S12 _ _ eo9, rmf_no _ _ (by decide +kernel) (by decide +kernel), ?_⟩
  walk_at "rd"
  refine ⟨p, r', _, 12, rfl, R9.same S12, fun c5 m5 => ?_⟩
  have t1 := same_upd (o := .lst ((enc (bxs ++ [[Th.num 4]]) 12).map V.int)) m5
  have ec5 : (upd H12 c5 (.lst ((enc (bxs ++ [[Th.num 4]]) 12).map V.int))) c5 = some (.lst ((enc (bxs ++ [[Th.num 4]]) 12).map V.int)) := upd_same
  have S13 := S12.trans t1
  revert S13 ec5
  generalize upd H12 c5 (.lst ((enc (bxs ++ [[Th.num 4]]) 12).map V.int)) = H13
  intro ec5 S13
  clear t1 m5
  have el13 := S13 _ _ el9
  walk_at "rd"
  refine ⟨l, _, rfl, .of el13, fun p1 hp1 => ?_⟩
  rw [cut_take]
  have t1 := same_upd (o := .lst (((enc bxs 12).map V.int).take (sizeT bxs))) hp1
  walk_at "rd"
  refine ⟨by show 2 ≤ sizeLine; decide, fun p2 hp2 => ?_⟩
  have t2 := same_upd (o := .lst [V.int 4, V.int 8]) hp2
  refine ⟨p1, p2, _, _, rfl, rfl, t2 _ _ upd_same, upd_same, sz2000 (by rw [List.length_take, List.length_map, lenc]; show _ + 2 ≤ _; omega), fun p3 hp3 => ?_⟩
  have t3 := same_upd (o := .lst (((enc bxs 12).map V.int).take (sizeT bxs) ++ [V.int 4, V.int 8])) hp3
  have T3 := t1.trans (t2.trans t3)
  walk_at "rd"
  refine ⟨l, _, rfl, .of (T3 _ _ el13), fun p4 hp4 => ?_⟩
  rw [show (sizeT bxs : Int) + 2 = ((sizeT bxs + 2 : Nat) : Int) by omega, cut_drop]
  have t4 := same_upd (o := .lst (((enc bxs 12).map V.int).drop (sizeT bxs + 2))) hp4
  refine ⟨p3, p4, _, _, rfl, rfl, t4 _ _ upd_same, upd_same, sz2000 (by rw [List.length_append, List.length_take, List.length_drop, List.length_map, lenc]; show _ + 2 + _ ≤ _; omega), fun p5 hp5 => ?_⟩
  have t5 := same_upd (o := .lst (((enc bxs 12).map V.int).take (sizeT bxs) ++ [V.int 4, V.int 8] ++ ((enc bxs 12).map V.int).drop (sizeT bxs + 2))) hp5
  walk_at "rd"
  refine ⟨c5, p5, enc (bxs ++ [[Th.num 4]]) 12, rfl, .of ((T3.trans (t4.trans t5)) _ _ ec5), .of ?_, ?_, fun H14 _ => ?_⟩
  · rw [upd_same, e9, List.map_append, List.map_append, List.map_take, List.map_drop]
    rfl
  · rw [enc_len ok9.sz]
    decide
  walk_at "rd"
  exact k _
theorem ok_RmadeM (T : Txt K mg A) : FnOk P w K mg base (L2.CX P w) 5 A.f_Rmade A.d_Rmade ["self", "things"] (fun vs H Q E => sp_Rmade K A vs H Q E ∨ sp_RmadeB K A vs H Q E ∨ sp_RmadeX K A vs H Q E) := fn_or (ok_Rmade T) (fn_or (ok_RmadeB T) (ok_RmadeX T))
theorem ok_RputM (T : Txt K mg A) : FnOk P w K mg base (L2.CX P w) 5 A.f_Rput A.d_Rput ["self", "place", "field", "thing"] (fun vs H Q E => sp_Rput K A vs H Q E ∨ sp_RputX K A vs H Q E ∨ sp_RputF K A vs H Q E ∨ sp_RputB K A vs H Q E ∨ sp_RputN K A vs H Q E) := fn_or (fn_up (ok_Rput T)) (fn_or (ok_RputX T) (fn_or (ok_RputF T) (fn_or (ok_RputB T) (ok_RputN T))))
theorem ok_RtoldM (T : Txt K mg A) : FnOk P w K mg base (L2.CX P w) 4 A.f_Rtold A.d_Rtold ["self", "place"] (fun vs H Q E => sp_Rtold K A vs H Q E ∨ sp_RtoldX K A vs H Q E) := fn_or (fn_up (ok_Rtold T)) (ok_RtoldX T)
def wordR : Ref → Str
  | .BadSize => "size"
  | .BadThing => "thing"
  | .NoBox => "box"
  | .NoField => "field"
  | .NoRoom => "room"
/-- told with an empty word, or refused with the word of its class -/
def Told (Q : VK) (y : V) (H : Hp) : Prop := ∀ t, H t = none → Q (.ref t) (upd H t (.tup [.str "", y]))
def Refd (Q : VK) (r : Ref) (H : Hp) : Prop := ∀ t, H t = none → Q (.ref t) (upd H t (.tup [.str (wordR r), .non]))
def Way (A : Adr) (Q : VK) (f : VK → XK → Prop) : Prop := ∀ (Q' : VK) (E' : XK), (∀ y H', Told Q y H' → Q' y H') → (∀ r H', r ≠ .BadSize → Refd Q r H' → E' (.ref (A.cl r)) none H') → f Q' E'
/-! #### _law_called -/
def sp_l_called (K : PySem.W.Frag) (A : Adr) : Sp := fun vs H Q _ => ∃ (p r l : Addr) (bxs : List (List Th)) (N : Nat) (c : Int) (v u : V), vs = [.ref p, .int c, .ref l, v, u] ∧ RoomAt A.c_Room H p r bxs N ∧
    ((c = 0 ∧ Way A Q fun Q' E' => sp_Rmade K A [.ref p, .ref l] H Q' E' ∨ sp_RmadeB K A [.ref p, .ref l] H Q' E' ∨ sp_RmadeX K A [.ref p, .ref l] H Q' E') ∨
     (c = 1 ∧ ∃ (x : V) (xs : List V), H l = some (.lst (x :: xs)) ∧ Way A Q fun Q' E' => sp_Rput K A [.ref p, v, u, x] H Q' E' ∨ sp_RputX K A [.ref p, v, u, x] H Q' E' ∨ sp_RputF K A [.ref p, v, u, x] H Q' E' ∨ sp_RputB K A [.ref p, v, u, x] H Q' E' ∨ sp_RputN K A [.ref p, v, u, x] H Q' E') ∨
     (c = 2 ∧ Way A Q fun Q' E' => sp_Rtold K A [.ref p, v] H Q' E' ∨ sp_RtoldX K A [.ref p, v] H Q' E'))
theorem ok_l_called (T : Txt K mg A) : FnOk P w K mg base CX0 6 A.f_l_called A.d_l_called ["_law_room", "_law_call", "_law_things_here", "_law_place", "_law_field"] (sp_l_called K A) := by
  refine T.F_l_called.ok sc_l_called (fun vs H Q E h => by obtain ⟨p, r, l, bxs, N, c, v, u, rfl, R, h⟩ := h; rfl) (fun cdv A' outer s H vs Q E hr h => ⟨_, (pss_cons (ps_try_manyAs (i := 6) rfl rfl sc_l_called.nd rfl rfl takes0 (fun W pn xe tk _ => (pss_one (ps_if (pt_cmpR op_eq (pv 1) pe_int (nomark _))
  (pss_one (ps_set (i := 5) sc_l_called.nd rfl (.inl rfl) (pe_methT (pv 0) T.clR T.me_Rmade (ok_RmadeM T) (hr.mono (by decide)) T.b_Rmade (fun σ => passAt tk σ) (pa_cons (pv 2) pa_nil))))
  (pss_one (ps_if (pt_cmpR op_eq (pv 1) pe_int (nomark _))
  (pss_one (ps_set (i := 5) sc_l_called.nd rfl (.inl rfl) (pe_methT (pv 0) T.clR T.me_Rput (ok_RputM T) (hr.mono (by decide)) T.b_Rput (fun σ => passAt tk σ) (pa_cons (pv 3) (pa_cons (pv 4) (pa_cons (pe_ix (ix_listK (K := K) rfl) (pv 2) pe_int (fun _ _ => rfl)) pa_nil))))))
  (pss_one (ps_set (i := 5) sc_l_called.nd rfl (.inl rfl) (pe_methT (pv 0) T.clR T.me_Rtold (ok_RtoldM T) (hr.mono (by decide)) T.b_Rtold (fun σ => passAt tk σ) (pa_cons (pv 3) pa_nil)))))))))
  (.cons ⟨rfl, by decide, .inl T.m_BadThing⟩ (fun a oe cls d pn hz hf => pss_when fun hc : Caught A cls d => (pss_one (ps_ret (pe_tup (pa_cons (pe_callP (ok_l_class T hc hz hf) ⟨(hr.mono (Nat.zero_le _)).dp, (hr.mono (Nat.zero_le _)).un⟩ List.mem_cons_self (by rfl) T.m__law_class T.F_l_class.kp T.b_l_class (pa_cons (pv 6) (pa_cons pe_str pa_nil))) (pa_cons pe_non pa_nil))))))
  (.cons ⟨rfl, by decide, .inl T.m_NoBox⟩ (fun a oe cls d pn hz hf => pss_when fun hc : Caught A cls d => (pss_one (ps_ret (pe_tup (pa_cons (pe_callP (ok_l_class T hc hz hf) ⟨(hr.mono (Nat.zero_le _)).dp, (hr.mono (Nat.zero_le _)).un⟩ List.mem_cons_self (by rfl) T.m__law_class T.F_l_class.kp T.b_l_class (pa_cons (pv 6) (pa_cons pe_str pa_nil))) (pa_cons pe_non pa_nil))))))
  (.cons ⟨rfl, by decide, .inl T.m_NoField⟩ (fun a oe cls d pn hz hf => pss_when fun hc : Caught A cls d => (pss_one (ps_ret (pe_tup (pa_cons (pe_callP (ok_l_class T hc hz hf) ⟨(hr.mono (Nat.zero_le _)).dp, (hr.mono (Nat.zero_le _)).un⟩ List.mem_cons_self (by rfl) T.m__law_class T.F_l_class.kp T.b_l_class (pa_cons (pv 6) (pa_cons pe_str pa_nil))) (pa_cons pe_non pa_nil))))))
  (.cons ⟨rfl, by decide, .inl T.m_NoRoom⟩ (fun a oe cls d pn hz hf => pss_when fun hc : Caught A cls d => (pss_one (ps_ret (pe_tup (pa_cons (pe_callP (ok_l_class T hc hz hf) ⟨(hr.mono (Nat.zero_le _)).dp, (hr.mono (Nat.zero_le _)).un⟩ List.mem_cons_self (by rfl) T.m__law_class T.F_l_class.kp T.b_l_class (pa_cons (pv 6) (pa_cons pe_str pa_nil))) (pa_cons pe_non pa_nil))))))
  .nil)))))
  (pss_one (ps_ret (pe_tup (pa_cons pe_str (pa_cons (pv 5) pa_nil)))))), ?_⟩)
  obtain ⟨p, r, l, bxs, N, c, v, u, rfl, R, h⟩ := h
  obtain ⟨⟨dx, eo⟩, er⟩ := id R
  rcases h with ⟨rfl, h⟩ | ⟨rfl, x, xs, el, h⟩ | ⟨rfl, h⟩
  · walk_at "rd"
    refine ⟨p, dx, _, rfl, eo, rmf_no _ _ (by decide +kernel) (by decide +kernel), ?_⟩
    walk_at "rd"
    refine h _ _ (fun y H' z => ?_) (fun rr H' nb z => ?_)
    · walk_at "rd"
      refine ⟨by show 2 ≤ sizeLine; decide, fun t nt => ?_⟩
      exact z t nt
    · cases rr with
      | BadSize => exact absurd rfl nb
      | BadThing =>
        refine ⟨true, T.xm .BadThing .BadThing, fun _ a ha => ⟨⟨.BadThing, rfl, rfl⟩, ?_⟩, fun q => nomatch q⟩
        walk_at "rd"
        refine ⟨by show 2 ≤ sizeLine; decide, fun t nt => ?_⟩
        exact z t nt
      | NoBox =>
        refine ⟨false, T.xm .NoBox .BadThing, (fun q => nomatch q), fun _ => ⟨true, T.xm .NoBox .NoBox, fun _ a ha => ⟨⟨.NoBox, rfl, rfl⟩, ?_⟩, fun q => nomatch q⟩⟩
        walk_at "rd"
        refine ⟨by show 2 ≤ sizeLine; decide, fun t nt => ?_⟩
        exact z t nt
      | NoField =>
        refine ⟨false, T.xm .NoField .BadThing, (fun q => nomatch q), fun _ => ⟨false, T.xm .NoField .NoBox, (fun q => nomatch q), fun _ => ⟨true, T.xm .NoField .NoField, fun _ a ha => ⟨⟨.NoField, rfl, rfl⟩, ?_⟩, fun q => nomatch q⟩⟩⟩
        walk_at "rd"
        refine ⟨by show 2 ≤ sizeLine; decide, fun t nt => ?_⟩
        exact z t nt
      | NoRoom =>
        refine ⟨false, T.xm .NoRoom .BadThing, (fun q => nomatch q), fun _ => ⟨false, T.xm .NoRoom .NoBox, (fun q => nomatch q), fun _ => ⟨false, T.xm .NoRoom .NoField, (fun q => nomatch q), fun _ => ⟨true, T.xm .NoRoom .NoRoom, fun _ a ha => ⟨⟨.NoRoom, rfl, rfl⟩, ?_⟩, fun q => nomatch q⟩⟩⟩⟩
        walk_at "rd"
        refine ⟨by show 2 ≤ sizeLine; decide, fun t nt => ?_⟩
        exact z t nt
  · walk_at "rd"
    refine ⟨p, dx, _, rfl, eo, rmf_no _ _ (by decide +kernel) (by decide +kernel), ?_⟩
    walk_at "rd"
    refine ⟨l, _, 0, x, rfl, rfl, .of el, atI_nat (j := 0) rfl, ?_⟩
    walk_at "rd"
    refine h _ _ (fun y H' z => ?_) (fun rr H' nb z => ?_)
    · walk_at "rd"
      refine ⟨by show 2 ≤ sizeLine; decide, fun t nt => ?_⟩
      exact z t nt
    · cases rr with
      | BadSize => exact absurd rfl nb
      | BadThing =>
        refine ⟨true, T.xm .BadThing .BadThing, fun _ a ha => ⟨⟨.BadThing, rfl, rfl⟩, ?_⟩, fun q => nomatch q⟩
        walk_at "rd"
        refine ⟨by show 2 ≤ sizeLine; decide, fun t nt => ?_⟩
        exact z t nt
      | NoBox =>
        refine ⟨false, T.xm .NoBox .BadThing, (fun q => nomatch q), fun _ => ⟨true, T.xm .NoBox .NoBox, fun _ a ha => ⟨⟨.NoBox, rfl, rfl⟩, ?_⟩, fun q => nomatch q⟩⟩
        walk_at "rd"
        refine ⟨by show 2 ≤ sizeLine; decide, fun t nt => ?_⟩
        exact z t nt
      | NoField =>
        refine ⟨false, T.xm .NoField .BadThing, (fun q => nomatch q), fun _ => ⟨false, T.xm .NoField .NoBox, (fun q => nomatch q), fun _ => ⟨true, T.xm .NoField .NoField, fun _ a ha => ⟨⟨.NoField, rfl, rfl⟩, ?_⟩, fun q => nomatch q⟩⟩⟩
        walk_at "rd"
        refine ⟨by show 2 ≤ sizeLine; decide, fun t nt => ?_⟩
        exact z t nt
      | NoRoom =>
        refine ⟨false, T.xm .NoRoom .BadThing, (fun q => nomatch q), fun _ => ⟨false, T.xm .NoRoom .NoBox, (fun q => nomatch q), fun _ => ⟨false, T.xm .NoRoom .NoField, (fun q => nomatch q), fun _ => ⟨true, T.xm .NoRoom .NoRoom, fun _ a ha => ⟨⟨.NoRoom, rfl, rfl⟩, ?_⟩, fun q => nomatch q⟩⟩⟩⟩
        walk_at "rd"
        refine ⟨by show 2 ≤ sizeLine; decide, fun t nt => ?_⟩
        exact z t nt
  · walk_at "rd"
    refine ⟨p, dx, _, rfl, eo, rmf_no _ _ (by decide +kernel) (by decide +kernel), ?_⟩
    walk_at "rd"
    refine h _ _ (fun y H' z => ?_) (fun rr H' nb z => ?_)
    · walk_at "rd"
      refine ⟨by show 2 ≤ sizeLine; decide, fun t nt => ?_⟩
      exact z t nt
    · cases rr with
      | BadSize => exact absurd rfl nb
      | BadThing =>
        refine ⟨true, T.xm .BadThing .BadThing, fun _ a ha => ⟨⟨.BadThing, rfl, rfl⟩, ?_⟩, fun q => nomatch q⟩
        walk_at "rd"
        refine ⟨by show 2 ≤ sizeLine; decide, fun t nt => ?_⟩
        exact z t nt
      | NoBox =>
        refine ⟨false, T.xm .NoBox .BadThing, (fun q => nomatch q), fun _ => ⟨true, T.xm .NoBox .NoBox, fun _ a ha => ⟨⟨.NoBox, rfl, rfl⟩, ?_⟩, fun q => nomatch q⟩⟩
        walk_at "rd"
        refine ⟨by show 2 ≤ sizeLine; decide, fun t nt => ?_⟩
        exact z t nt
      | NoField =>
        refine ⟨false, T.xm .NoField .BadThing, (fun q => nomatch q), fun _ => ⟨false, T.xm .NoField .NoBox, (fun q => nomatch q), fun _ => ⟨true, T.xm .NoField .NoField, fun _ a ha => ⟨⟨.NoField, rfl, rfl⟩, ?_⟩, fun q => nomatch q⟩⟩⟩
        walk_at "rd"
        refine ⟨by show 2 ≤ sizeLine; decide, fun t nt => ?_⟩
        exact z t nt
      | NoRoom =>
        refine ⟨false, T.xm .NoRoom .BadThing, (fun q => nomatch q), fun _ => ⟨false, T.xm .NoRoom .NoBox, (fun q => nomatch q), fun _ => ⟨false, T.xm .NoRoom .NoField, (fun q => nomatch q), fun _ => ⟨true, T.xm .NoRoom .NoRoom, fun _ a ha => ⟨⟨.NoRoom, rfl, rfl⟩, ?_⟩, fun q => nomatch q⟩⟩⟩⟩
        walk_at "rd"
        refine ⟨by show 2 ≤ sizeLine; decide, fun t nt => ?_⟩
        exact z t nt
/-! what stays told -/
def Keep (H H' : Hp) : Prop := ∀ a o, H a = some o → (∀ C dx fs, o ≠ .ins C dx fs) → H' a = some o
theorem Same.keep {H H' : Hp} (s : Same H H') : Keep H H' := fun a o e _ => s a o e
theorem keep_but {H H' : Hp} {p : Addr} {C dx : Addr} {fs : List (Str × V)} (e : H p = some (.ins C dx fs)) (b : ∀ c o, H c = some o → c ≠ p → H' c = some o) : Keep H H' := fun a o ea n => b a o ea fun z => n C dx fs (by rw [z, e] at ea; exact (Option.some.inj ea).symm)
theorem Keep.trans {H H1 H2 : Hp} (a : Keep H H1) (b : Keep H1 H2) : Keep H H2 := fun c o e n => b c o (a c o e n) n
theorem Keep.seqL {K : PySem.W.Frag} {H H' : Hp} {a : Addr} {xs : List V} (s : Keep H H') (h : SqL K H a xs) : SqL K H' a xs := by
  rcases h with (h | ⟨o, h⟩) | h
  · exact .inl (.inl (s _ _ h fun _ _ _ z => nomatch z))
  · exact .inl (.inr ⟨o, s _ _ h fun _ _ _ z => nomatch z⟩)
  · exact .inr h
theorem Keep.seqT {K : PySem.W.Frag} {H H' : Hp} {a : Addr} {xs : List V} (s : Keep H H') (h : SqT K H a xs) : SqT K H' a xs := by
  rcases h with (h | ⟨o, h⟩) | h
  · exact .inl (.inl (s _ _ h fun _ _ _ z => nomatch z))
  · exact .inl (.inr ⟨o, s _ _ h fun _ _ _ z => nomatch z⟩)
  · exact .inr h
mutual
theorem dp_keep {K : PySem.W.Frag} {H H' : Hp} (s : Keep H H') : ∀ (d : PyData) (v : V), Dp K H v d → Dp K H' v d
  | .none, _, h => by cases h; exact .non
  | .bool b, _, h => by cases h; exact .bl b
  | .int i, _, h => by cases h; exact .int i
  | .str x, _, h => by cases h; exact .str x
  | .list ds, _, h => by
    cases h with
    | lst hs ha => exact .lst (s.seqL hs) (dps_keep s ds _ ha)
  | .tuple ds, _, h => by
    cases h with
    | tup hs ha => exact .tup (s.seqT hs) (dps_keep s ds _ ha)
  | .dict _, _, h => by cases h
theorem dps_keep {K : PySem.W.Frag} {H H' : Hp} (s : Keep H H') : ∀ (ds : List PyData) (vs : List V), DpAll K H vs ds → DpAll K H' vs ds
  | [], _, h => by cases h; exact .nil
  | d :: ds, _, h => by
    cases h with
    | cons h1 h2 => exact .cons (dp_keep s d _ h1) (dps_keep s ds _ h2)
end
theorem DatAt.keep {H H' : Hp} {v : V} (h : DatAt H v) (s : Keep H H') : DatAt H' v := by
  obtain ⟨d, a, b⟩ := h
  exact ⟨d, fun K => dp_keep s d v (a K), b⟩
/-- all of a list may be shown -/
theorem dat_all {H : Hp} : ∀ {us : List V}, (∀ v ∈ us, DatAt H v) → ∃ ds : List PyData, (∀ K, DpAll K H us ds) ∧ (∀ d ∈ ds, FineR 3000 3 d) ∧ ds.length = us.length
  | [], _ => ⟨[], fun _ => .nil, fun _ h => absurd h List.not_mem_nil, rfl⟩
  | v :: us, h => by
    obtain ⟨d, a, b⟩ := h v List.mem_cons_self
    obtain ⟨ds, a2, b2, l2⟩ := dat_all fun x hx => h x (List.mem_cons_of_mem _ hx)
    refine ⟨d :: ds, fun K => .cons (a K) (a2 K), fun x hx => ?_, by rw [List.length_cons, List.length_cons, l2]⟩
    rcases List.mem_cons.mp hx with rfl | hx
    · exact b
    · exact b2 x hx
theorem dat_num {H : Hp} {t : Addr} {n : Nat} (e : H t = some (.tup [.str "number", .int (n : Int)])) (hn : n < 10) : DatAt H (.ref t) :=
  ⟨_, fun K => .tup (.of e) (.cons (.str _) (.cons (.int _) .nil)), fr_tup (frs_cons (fr_up (fr_str (by decide +kernel) ⟨by decide +kernel, by decide +kernel⟩)) (frs_cons (fr_up (fr_int (i := (n : Int)) (by omega))) frs_nil)) (by simp)⟩
theorem PickAt.same {H H' : Hp} {v : V} {i : Nat} (h : PickAt H v i) (s : Same H H') : PickAt H' v i := by
  rcases h with ⟨a, t, b, c⟩ | ⟨a, b, t, z, c, d, e⟩ | ⟨a, b⟩
  · exact .inl ⟨a, t, b, s _ _ c⟩
  · exact .inr (.inl ⟨a, b, t, z, c, s _ _ d, e⟩)
  · exact .inr (.inr ⟨a, b.same s⟩)
/-! the things of a box that is to be made -/
def It (H : Hp) (v : V) : Option Nat → Prop
  | none => ∃ (t : Addr) (n : Nat), v = .ref t ∧ H t = some (.tup [.str "number", .int (n : Int)]) ∧ n < 10
  | some i => PickAt H v i ∧ DatAt H v
theorem It.same {H H' : Hp} {v : V} {d : Option Nat} (h : It H v d) (s : Same H H') : It H' v d := by
  cases d with
  | none =>
    obtain ⟨t, n, a, b, c⟩ := h
    exact ⟨t, n, a, s _ _ b, c⟩
  | some i => exact ⟨h.1.same s, h.2.keep (Same.keep s)⟩
theorem It.dat {H : Hp} {v : V} {d : Option Nat} (h : It H v d) : DatAt H v := by
  cases d with
  | none =>
    obtain ⟨t, n, rfl, b, c⟩ := h
    exact dat_num b c
  | some i => exact h.2
/-- a thing that may go in: as it stands, and as the law's -/
def Goes (H : Hp) (v : V) (th : Th) : Prop := ∃ t, v = .ref t ∧ H t = some (.tup (thV (toPl bx0 th))) ∧ OkTh (toPl bx0 th) ∧ ∀ k, th = .box k → k < bx0.length
theorem good_goes {i : Nat} (h : i < 5) : ∃ th, good5 i = toPl bx0 th ∧ OkTh (toPl bx0 th) ∧ ∀ k, th = .box k → k < bx0.length := by
  match i, h with
  | 0, _ => exact ⟨.num 5, rfl, by show (5 : Int).natAbs < 10 ^ 60; decide +kernel, fun k z => nomatch z⟩
  | 1, _ => exact ⟨.num (10 ^ 60 - 1), rfl, by show (10 ^ 60 - 1 : Int).natAbs < 10 ^ 60; decide +kernel, fun k z => nomatch z⟩
  | 2, _ => exact ⟨.num (1 - 10 ^ 60), rfl, by show (1 - 10 ^ 60 : Int).natAbs < 10 ^ 60; decide +kernel, fun k z => nomatch z⟩
  | 3, _ => exact ⟨.box 0, rfl, by show (0 : Nat) < 10 ^ 60; decide +kernel, fun k z => by cases z; decide⟩
  | 4, _ => exact ⟨.box 1, rfl, by show (3 : Nat) < 10 ^ 60; decide +kernel, fun k z => by cases z; decide⟩
  | i + 5, h => exact absurd h (by omega)
theorem PickAt.goes {H : Hp} {v : V} {i : Nat} (h : PickAt H v i) (hi : i < 5) : ∃ th, Goes H v th := by
  rcases h with ⟨a, t, b, c⟩ | ⟨a, b, t, z, c, d, e⟩ | ⟨a, b⟩
  · obtain ⟨th, e, h1, h2⟩ := good_goes a
    exact ⟨th, t, b, by rw [c, e], h1, h2⟩
  · exact absurd hi (by omega)
  · exact absurd hi (by omega)
theorem It.goes {H : Hp} {v : V} {d : Option Nat} (h : It H v d) (hd : ∀ i, d = some i → i < 5) : ∃ th, Goes H v th := by
  cases d with
  | none =>
    obtain ⟨t, n, a, b, c⟩ := h
    exact ⟨.num (n : Int), t, a, b, by show ((n : Int)).natAbs < 10 ^ 60; omega, fun k z => nomatch z⟩
  | some i => exact h.1.goes (hd i rfl)
theorem It.good {H : Hp} {v : V} {d : Option Nat} (h : It H v d) (hd : ∀ i, d = some i → i < 9) : GoodT H v := by
  have one : ∀ th, Goes H v th → GoodT H v := fun th q => by
    obtain ⟨t, e, et, ok, _⟩ := q
    cases th with
    | num n => exact ⟨t, false, n, e, et, ok⟩
    | box k => exact ⟨t, true, _, e, et, by have : plT bx0 k < 10 ^ 60 := ok; omega⟩
  by_cases c : ∀ i, d = some i → i < 5
  · obtain ⟨th, q⟩ := h.goes c
    exact one th q
  · cases d with
    | none => exact absurd (fun i z => nomatch z) c
    | some i =>
      rcases h.1 with ⟨a, _⟩ | ⟨a, b, t, z, e1, e2, e3, _⟩ | ⟨a, b⟩
      · refine absurd (fun j z => ?_) c
        cases z
        exact a
      · exact ⟨t, true, z, e1, e2, e3⟩
      · exact absurd (hd i rfl) (by omega)
theorem first_of (p : Nat → Prop) : ∀ n, p n → ∃ j, p j ∧ ∀ i, i < j → ¬ p i := fun n => by
  induction n using Nat.strongRecOn with
  | _ n ih =>
    intro h
    by_cases c : ∃ i, i < n ∧ p i
    · obtain ⟨i, hi, q⟩ := c
      exact ih i hi q
    · exact ⟨n, h, fun i hi q => c ⟨i, hi, q⟩⟩
theorem goes_all {H : Hp} : ∀ {us : List V}, (∀ v ∈ us, ∃ th, Goes H v th) → ∃ (ts : List Addr) (ths : List Th), us = ts.map V.ref ∧ ts.length = ths.length ∧ (∀ (i : Nat) (t : Addr) (th : Th), ts[i]? = some t → (ths.map (toPl bx0))[i]? = some th → H t = some (.tup (thV th))) ∧
    (∀ th ∈ ths, OkTh (toPl bx0 th)) ∧ ∀ k, Th.box k ∈ ths → k < bx0.length
  | [], _ => ⟨[], [], rfl, rfl, fun i t th a => absurd a (by simp), fun th h => absurd h List.not_mem_nil, fun k h => absurd h List.not_mem_nil⟩
  | v :: us, h => by
    obtain ⟨th, t, rfl, et, h1, h2⟩ := h v List.mem_cons_self
    obtain ⟨ts, ths, rfl, hl, k1, k2, k3⟩ := goes_all fun x hx => h x (List.mem_cons_of_mem _ hx)
    refine ⟨t :: ts, th :: ths, rfl, by rw [List.length_cons, List.length_cons, hl], fun i t' th' a b => ?_, fun x hx => ?_, fun k hk => ?_⟩
    · match i, a, b with
      | 0, a, b =>
        cases Option.some.inj (show some t = some t' from a)
        cases Option.some.inj (show some (toPl bx0 th) = some th' from b)
        exact et
      | i + 1, a, b => exact k1 i t' th' a b
    · rcases List.mem_cons.mp hx with rfl | hx
      · exact h1
      · exact k2 x hx
    · rcases List.mem_cons.mp hk with e | hk
      · exact h2 k e.symm
      · exact k3 k hk
theorem refs_all {H : Hp} : ∀ {us : List V}, (∀ v ∈ us, GoodT H v) → ∃ ts : List Addr, us = ts.map V.ref
  | [], _ => ⟨[], rfl⟩
  | v :: us, h => by
    obtain ⟨t, _, _, rfl, _⟩ := h v List.mem_cons_self
    obtain ⟨ts, rfl⟩ := refs_all fun x hx => h x (List.mem_cons_of_mem _ hx)
    exact ⟨t :: ts, rfl⟩
theorem ok0 : RoomOk bx0 12 := by
  refine ⟨fun fs hf k hk => ?_, by decide, by decide, by decide⟩
  simp only [bx0, List.mem_cons, List.not_mem_nil, or_false] at hf
  rcases hf with rfl | rfl
  · simp at hk
  · simp only [List.mem_cons, List.not_mem_nil, or_false] at hk
    rcases hk with hk | hk
    · cases hk
    · cases hk
      decide
/-! the words that are due -/
theorem word_thing {i : Nat} : wordOf i = "thing" ↔ 9 ≤ i := by
  unfold wordOf
  by_cases c : i < 5
  · rw [if_pos c]
    exact ⟨fun z => absurd z (by decide +kernel), fun z => absurd z (by omega)⟩
  · rw [if_neg c]
    by_cases c2 : i ≤ 8
    · rw [if_pos c2]
      exact ⟨fun z => absurd z (by decide +kernel), fun z => absurd z (by omega)⟩
    · rw [if_neg c2]
      exact ⟨fun _ => by omega, fun _ => rfl⟩
theorem word_box {i : Nat} : wordOf i = "box" ↔ 5 ≤ i ∧ i ≤ 8 := by
  unfold wordOf
  by_cases c : i < 5
  · rw [if_pos c]
    exact ⟨fun z => absurd z (by decide +kernel), fun z => absurd z (by omega)⟩
  · rw [if_neg c]
    by_cases c2 : i ≤ 8
    · rw [if_pos c2]
      exact ⟨fun _ => ⟨by omega, c2⟩, fun _ => rfl⟩
    · rw [if_neg c2]
      exact ⟨fun z => absurd z (by decide +kernel), fun z => absurd z (by omega)⟩
theorem due_thing {m : Nat} {ps : List Nat} (h : ∃ i ∈ ps, 9 ≤ i) : madeDue m ps = "thing" := by
  obtain ⟨i, hi, h⟩ := h
  unfold madeDue
  rw [if_pos (List.mem_map.mpr ⟨i, hi, word_thing.mpr h⟩)]
theorem due_box {m : Nat} {ps : List Nat} (h9 : ¬ ∃ i ∈ ps, 9 ≤ i) (h : ∃ i ∈ ps, 5 ≤ i) : madeDue m ps = "box" := by
  obtain ⟨i, hi, h⟩ := h
  unfold madeDue
  rw [if_neg (fun z => by obtain ⟨j, a, b⟩ := List.mem_map.mp z; exact h9 ⟨j, a, word_thing.mp b⟩), if_pos (List.mem_map.mpr ⟨i, hi, word_box.mpr ⟨h, by
    by_cases c : i ≤ 8
    · exact c
    · exact absurd ⟨i, hi, by omega⟩ h9⟩⟩)]
theorem due_good {m : Nat} {ps : List Nat} (h : ¬ ∃ i ∈ ps, 5 ≤ i) : madeDue m ps = (if 5 < m then ("room" : Str) else ("" : Str)) := by
  unfold madeDue
  rw [if_neg (fun z => by obtain ⟨j, a, b⟩ := List.mem_map.mp z; exact h ⟨j, a, by have := word_thing.mp b; omega⟩), if_neg (fun z => by obtain ⟨j, a, b⟩ := List.mem_map.mp z; exact h ⟨j, a, (word_box.mp b).1⟩)]
/-! the ways of a call -/
theorem made_way {A : Adr} {K : PySem.W.Frag} {Q : VK} {H : Hp} {p r l : Addr} {us : List V} {ds : List (Option Nat)} {ps : List Nat} (R : RoomAt A.c_Room H p r bx0 12) (el : H l = some (.lst us)) (hl : us.length = ds.length) (I : ∀ (j : Nat) (v : V) (d : Option Nat), us[j]? = some v → ds[j]? = some d → It H v d) (rel : ∀ i, i ∈ ps ↔ some i ∈ ds) (hm : us.length ≤ 9)
    (kr : ∀ rr H', rr ≠ .BadSize → wordR rr = madeDue us.length ps → Same H H' → Refd Q rr H')
    (km : madeDue us.length ps = "" → us.length ≤ 5 → ∀ (ths : List Th) (r' : Addr) (H' : Hp), ths.length = us.length → FieldsAt H l (ths.map (toPl bx0)) → (∀ k, Th.box k ∈ ths → k < bx0.length) → RoomAt A.c_Room H' p r' (bx0 ++ [ths]) 12 → (∀ b o, H b = some o → b ≠ p → H' b = some o) → Told Q (.int 6) H') :
    Way A Q fun Q' E' => sp_Rmade K A [.ref p, .ref l] H Q' E' ∨ sp_RmadeB K A [.ref p, .ref l] H Q' E' ∨ sp_RmadeX K A [.ref p, .ref l] H Q' E' := by
  intro Q' E' hq he
  have at_us : ∀ j d, ds[j]? = some d → ∃ v, us[j]? = some v ∧ It H v d := fun j d e => by
    have hj := (List.getElem?_eq_some_iff.mp e).1
    exact ⟨us[j]'(by omega), List.getElem?_eq_getElem (by omega), I j _ d (List.getElem?_eq_getElem (by omega)) e⟩
  have at_ds : ∀ j v, us[j]? = some v → ∃ d, ds[j]? = some d ∧ It H v d := fun j v e => by
    have hj := (List.getElem?_eq_some_iff.mp e).1
    exact ⟨ds[j]'(by omega), List.getElem?_eq_getElem (by omega), I j v _ e (List.getElem?_eq_getElem (by omega))⟩
  by_cases c1 : ∃ i ∈ ps, 9 ≤ i
  · have due := due_thing (m := us.length) c1
    obtain ⟨i0, hi0, h0⟩ := c1
    obtain ⟨j0, hj0, e0⟩ := List.mem_iff_getElem.mp ((rel i0).mp hi0)
    obtain ⟨j, ⟨i, ei, hi⟩, first⟩ := first_of (fun j => ∃ i, ds[j]? = some (some i) ∧ 9 ≤ i) j0 ⟨i0, by rw [List.getElem?_eq_getElem hj0, e0], h0⟩
    obtain ⟨u, hu, iu⟩ := at_us j _ ei
    have bad : BadT H u := by
      rcases iu.1 with ⟨a, _⟩ | ⟨_, a, _⟩ | ⟨_, b⟩
      · exact absurd a (by omega)
      · exact absurd a (by omega)
      · exact b
    refine .inr (.inl ⟨p, l, us, j, u, rfl, el, hu, bad, fun k v hk hv => ?_, fun H' S => he .BadThing H' (fun z => nomatch z) (kr _ _ (fun z => nomatch z) due.symm S)⟩)
    obtain ⟨d, ed, iv⟩ := at_ds k v hv
    refine iv.good fun q hq => ?_
    by_cases c : q < 9
    · exact c
    · exact absurd ⟨q, by rw [ed, hq], by omega⟩ (first k hk)
  have small : ∀ (j : Nat) (d : Option Nat), ds[j]? = some d → ∀ i, d = some i → i < 9 := fun j d e i ei => by
    by_cases c : i < 9
    · exact c
    · exact absurd ⟨i, (rel i).mpr (ei ▸ List.mem_of_getElem? e), by omega⟩ c1
  have good : ∀ v ∈ us, GoodT H v := fun v hv => by
    obtain ⟨j, hj, e⟩ := List.mem_iff_getElem.mp hv
    obtain ⟨d, ed, iv⟩ := at_ds j v (by rw [List.getElem?_eq_getElem hj, e])
    exact iv.good (small j d ed)
  by_cases c2 : ∃ i ∈ ps, 5 ≤ i
  · have due := due_box (m := us.length) c1 c2
    obtain ⟨i0, hi0, h0⟩ := c2
    obtain ⟨j0, hj0, e0⟩ := List.mem_iff_getElem.mp ((rel i0).mp hi0)
    obtain ⟨j, ⟨i, ei, hi⟩, first⟩ := first_of (fun j => ∃ i, ds[j]? = some (some i) ∧ 5 ≤ i) j0 ⟨i0, by rw [List.getElem?_eq_getElem hj0, e0], h0⟩
    obtain ⟨u, hu, iu⟩ := at_us j _ ei
    obtain ⟨ts, rfl⟩ := refs_all good
    rcases iu.1 with ⟨a, _⟩ | ⟨_, a, t, z, rfl, ht, _, hz⟩ | ⟨b, _⟩
    · exact absurd a (by omega)
    · have hj : ts[j]? = some t := by
        obtain ⟨t', e1, e2⟩ := ref_get hu
        cases e2
        exact e1
      refine .inr (.inr ⟨p, r, l, bx0, 12, ts, j, t, z, rfl, R, ok0, el, by rw [List.length_map] at hm; omega, fun v hv => good _ (List.mem_map.mpr ⟨v, hv, rfl⟩), fun k v hk hv => ?_, hj, ht, hz, fun H' S => he .NoBox H' (fun z => nomatch z) (kr _ _ (fun z => nomatch z) due.symm S)⟩)
      obtain ⟨d, ed, iv⟩ := at_ds k (.ref v) (by rw [List.getElem?_map, hv]; rfl)
      obtain ⟨th, t', e1, e2, _, e4⟩ := iv.goes fun q hq => by
        by_cases c : q < 5
        · exact c
        · exact absurd ⟨q, by rw [ed, hq], by omega⟩ (first k hk)
      cases e1
      cases th with
      | num n => exact .inl ⟨n, e2⟩
      | box q => exact .inr ⟨q, e4 q rfl, e2⟩
    · exact absurd (small j _ ei i rfl) (by omega)
  · have due := due_good (m := us.length) c2
    obtain ⟨ts, ths, e1, e2, e3, okt, vt⟩ := goes_all (H := H) (us := us) fun v hv => by
      obtain ⟨j, hj, e⟩ := List.mem_iff_getElem.mp hv
      obtain ⟨d, ed, iv⟩ := at_ds j v (by rw [List.getElem?_eq_getElem hj, e])
      refine iv.goes fun q hq => ?_
      by_cases c : q < 5
      · exact c
      · exact absurd ⟨q, (rel q).mpr (hq ▸ List.mem_of_getElem? ed), by omega⟩ c2
    have lu : ths.length = us.length := by rw [e1, List.length_map, e2]
    have F : FieldsAt H l (ths.map (toPl bx0)) := ⟨ts, by rw [el, e1], by rw [List.length_map, e2], e3⟩
    have s6 : sizeT bx0 = 6 := rfl
    refine .inl ⟨p, r, l, bx0, 12, ths, rfl, R, ok0, F, okt, vt, by omega, fun hz r' H' _ R' bt => hq _ _ ?_, fun hz H' S => he .NoRoom H' (fun z => nomatch z) (kr _ _ (fun z => nomatch z) ?_ S)⟩
    · rw [s6] at hz
      exact km (by rw [due, if_neg (by omega)]) (by omega) ths r' H' lu F vt R' bt
    · rw [s6] at hz
      rw [due, if_pos (by omega)]
      rfl
theorem pl_yes {v : V} (h : isPl v = true) : ∃ i, i < bx0.length ∧ v = .int (plT bx0 i) := by
  cases v with
  | int n =>
    rcases of_decide_eq_true h with rfl | rfl
    · exact ⟨0, by decide, rfl⟩
    · exact ⟨1, by decide, rfl⟩
  | _ => exact absurd h Bool.false_ne_true
theorem pl_no {v : V} (h : isPl v = false) : ∀ k, k < bx0.length → V.int (plT bx0 k : Int) ≠ v := fun k hk e => by
  rw [← e] at h
  have z := of_decide_eq_false h
  rcases bx0_pl k hk with q | q
  · rw [q] at z
    exact z (.inl rfl)
  · rw [q] at z
    exact z (.inr rfl)
theorem fd_yes {u : V} (h : isFd u = true) : ∃ f : Nat, f < 2 ∧ u = .int (f : Int) := by
  cases u with
  | int n =>
    have z := of_decide_eq_true h
    exact ⟨n.toNat, by omega, by rw [show ((n.toNat : Nat) : Int) = n by omega]⟩
  | _ => exact absurd h Bool.false_ne_true
theorem fd_no {u : V} (h : isFd u = false) : ∀ f : Nat, f < 2 → V.int (f : Int) ≠ u := fun f hf e => by
  rw [← e] at h
  have z := of_decide_eq_false h
  exact z ⟨by omega, by omega⟩
theorem bx0_len {i : Nat} {fs : List Th} (h : bx0[i]? = some fs) : fs.length = 2 := by
  match i, h with
  | 0, h =>
    cases Option.some.inj (show some [Th.num 0, Th.num 0] = some fs from h)
    rfl
  | 1, h =>
    cases Option.some.inj (show some [Th.num 5, Th.box 0] = some fs from h)
    rfl
  | i + 2, h => exact absurd h (by simp [bx0])
theorem put_way {A : Adr} {K : PySem.W.Frag} {Q : VK} {H : Hp} {p r : Addr} {v u x : V} {i : Nat} (R : RoomAt A.c_Room H p r bx0 12) (hv : Kv H v) (hu : Kv H u) (hx : PickAt H x i)
    (kr : ∀ rr H', rr ≠ .BadSize → wordR rr = putDue 1 v u i → Same H H' → Refd Q rr H')
    (kp : putDue 1 v u i = "" → ∀ (j f : Nat) (fs : List Th) (th : Th) (H' : Hp), v = .int (plT bx0 j) → u = .int f → bx0[j]? = some fs → f < 2 → Goes H x th → RoomAt A.c_Room H' p r (bx0.set j (fs.set f th)) 12 → (∀ b o, H b = some o → b ≠ r → H' b = some o) → Told Q .non H') :
    Way A Q fun Q' E' => sp_Rput K A [.ref p, v, u, x] H Q' E' ∨ sp_RputX K A [.ref p, v, u, x] H Q' E' ∨ sp_RputF K A [.ref p, v, u, x] H Q' E' ∨ sp_RputB K A [.ref p, v, u, x] H Q' E' ∨ sp_RputN K A [.ref p, v, u, x] H Q' E' := by
  intro Q' E' hq he
  by_cases c1 : isPl v = true
  · obtain ⟨j, hj, rfl⟩ := pl_yes c1
    have hfs : bx0[j]? = some bx0[j] := List.getElem?_eq_getElem hj
    revert hfs
    generalize bx0[j] = fs
    intro hfs
    have l2 := bx0_len hfs
    by_cases c2 : isFd u = true
    · obtain ⟨f, hf, rfl⟩ := fd_yes c2
      have due : putDue 1 (.int (plT bx0 j)) (.int (f : Int)) i = wordOf i := by
        unfold putDue
        rw [if_neg (by rw [c1]; decide), if_neg (by decide), if_neg (by rw [c2]; decide)]
      rcases id hx with ⟨hi, _⟩ | ⟨h5, h8, t, z, rfl, ht, hz1, hz⟩ | ⟨h9, bad⟩
      · obtain ⟨th, g⟩ := hx.goes hi
        obtain ⟨t, rfl, ht, okt, hb⟩ := id g
        refine .inl ⟨p, r, t, bx0, 12, j, f, fs, th, rfl, R, ok0, hfs, by omega, ht, okt, hb, fun H' R' bt => hq _ _ (kp ?_ j f fs th H' rfl rfl hfs hf g R' bt)⟩
        rw [due]
        unfold wordOf
        rw [if_pos hi]
      · exact .inr (.inr (.inr (.inr ⟨p, r, t, bx0, 12, j, f, fs, z, rfl, R, ok0, hfs, by omega, ht, hz1, hz, fun H' S => he .NoBox H' (fun z => nomatch z) (kr _ _ (fun z => nomatch z) (by rw [due, word_box.mpr ⟨h5, h8⟩]; rfl) S)⟩)))
      · exact .inr (.inr (.inr (.inl ⟨p, r, bx0, 12, j, f, fs, x, rfl, R, ok0, hfs, by omega, bad, fun H' S => he .BadThing H' (fun z => nomatch z) (kr _ _ (fun z => nomatch z) (by rw [due, word_thing.mpr h9]; rfl) S)⟩)))
    · have c3 : isFd u = false := by simpa using c2
      refine .inr (.inr (.inl ⟨p, r, bx0, 12, j, fs, u, x, rfl, R, ok0, hfs, hu, by rw [l2]; exact fd_no c3, fun H' S => he .NoField H' (fun z => nomatch z) (kr _ _ (fun z => nomatch z) ?_ S)⟩))
      unfold putDue
      rw [if_neg (by rw [c1]; decide), if_neg (by decide), if_pos c3]
      rfl
  · have c3 : isPl v = false := by simpa using c1
    refine .inr (.inl ⟨p, r, bx0, 12, v, u, x, rfl, R, ok0, hv, pl_no c3, fun H' S => he .NoBox H' (fun z => nomatch z) (kr _ _ (fun z => nomatch z) ?_ S)⟩)
    unfold putDue
    rw [if_pos c3]
    rfl
theorem told_way {A : Adr} {K : PySem.W.Frag} {Q : VK} {H : Hp} {p r : Addr} {v u : V} {i : Nat} (R : RoomAt A.c_Room H p r bx0 12) (hv : Kv H v)
    (kr : ∀ rr H', rr ≠ .BadSize → wordR rr = putDue 2 v u i → Same H H' → Refd Q rr H')
    (kt : putDue 2 v u i = "" → ∀ (j : Nat) (fs : List Th) (l : Addr) (H' : Hp), v = .int (plT bx0 j) → bx0[j]? = some fs → Same H H' → FieldsAt H' l (fs.map (toPl bx0)) → Told Q (.ref l) H') :
    Way A Q fun Q' E' => sp_Rtold K A [.ref p, v] H Q' E' ∨ sp_RtoldX K A [.ref p, v] H Q' E' := by
  intro Q' E' hq he
  by_cases c1 : isPl v = true
  · obtain ⟨j, hj, rfl⟩ := pl_yes c1
    have hfs : bx0[j]? = some bx0[j] := List.getElem?_eq_getElem hj
    refine .inl ⟨p, r, bx0, 12, j, _, rfl, R, ok0, hfs, fun l H' _ S F => hq _ _ (kt ?_ j _ l H' rfl hfs S F)⟩
    unfold putDue
    rw [if_neg (by rw [c1]; decide), if_pos rfl]
  · have c3 : isPl v = false := by simpa using c1
    refine .inr ⟨p, r, bx0, 12, v, rfl, R, ok0, hv, pl_no c3, fun H' S => he .NoBox H' (fun z => nomatch z) (kr _ _ (fun z => nomatch z) ?_ S)⟩
    unfold putDue
    rw [if_pos c3]
    rfl
theorem kit_own {K : PySem.W.Frag} {D E : Addr} {b : Bool} (is_E : PySem.W.isClsIn K E = true) (ty_E : PySem.W.typeIn K (.ref E) = some (.type "type")) (ss_D : PySem.W.subIn K (.ref D) (.ref D) = some true) (h : PySem.W.subIn K (.ref D) (.ref E) = some b) : PySem.W.kitOne K (.ref D) (.ref E) = some b := by
  unfold PySem.W.kitOne
  by_cases c : (Value.ref D == Value.ref E) = true
  · rw [if_pos c]
    cases beq_iff_eq.mp c
    rw [ss_D] at h
    exact h
  · rw [if_neg c]
    unfold PySem.W.kitCls
    have e2 : ((PySem.W.clsIn K E).isSome && PySem.W.typeIn K (.ref E) == some (.type "type")) = true := by
      rw [show (PySem.W.clsIn K E).isSome = true from is_E, ty_E]
      rfl
    show (if ((PySem.W.clsIn K E).isSome && PySem.W.typeIn K (.ref E) == some (.type "type")) = true then PySem.W.subIn K (.ref D) (.ref E) else none) = some b
    rw [if_pos e2]
    exact h
theorem kit_ve {K : PySem.W.Frag} {D : Addr} (sv_D : PySem.W.subIn K (.ref D) (.type "ValueError") = some true) : PySem.W.kitOne K (.ref D) (.type "ValueError") = some true := by
  unfold PySem.W.kitOne
  rw [if_neg (fun z => nomatch (beq_iff_eq.mp z : Value.ref D = Value.type "ValueError"))]
  show (if PySem.W.kitMeta "ValueError" = true then PySem.W.subIn K (.ref D) (.type "ValueError") else none) = some true
  rw [if_pos (by decide +kernel)]
  exact sv_D
/-! ### the law's own def is entered where no repr is under way -/
theorem law_callG {P : Program} {w : World} {K : PySem.W.Frag} {mg mb : Str → Option Value} {k : Nat} {fa a : Addr} {fd : FuncData} {x : Str} {sp : Sp} {s : Shared} {vs : List Value} {ns : List Int}
    (kx : K.In s.heap) (hns : s.heap.Ns mainGlobals mg) (hb : s.heap.Ns builtinsNs mb) (hbb : ∀ y : Str, y ≠ "__name__" → mb y = bootBuiltins y) (hlim : s.heap.NoLimit) (hg : s.gens = #[])
    (ha : s.heap.get? a = some { cls := .type "list", data := .seq vs.toArray }) (hi : IntsAre vs ns) (hl : ns.length ≤ sizeLine) (hr : Room k callerA)
    (F : ∀ base : Heap, K.In base → base.Ns mainGlobals mg → FnG P w K mg base k fa fd [x] sp) (bind : ∀ (s : Shared) (u : Value), BindsTo s fd ⟨[u], []⟩ [(x, u)])
    (hsp : ∀ H : Hp, L2.Only H → SqL K H a (ns.map V.int) → sp [.ref a] H (fun v _ => v = .bl true) E0) :
    codeAny (model P w) callerA (.call (.ref fa) ⟨[.ref a], []⟩) (fun r s' => r = .ok (.ret (.bool true)) ∧ OldK s.heap s'.heap ∧ s'.os = s.os ∧ AllBare s'.gens) s := by
  have rv := L2.vals_ints hi
  have lv := hi.length
  -- at most the script is tracked
  have go : ∀ H : Hp, L2.Only H → SqL K H a (ns.map V.int) → HOk P w H s.heap → (∀ b u, H b = some u → b = a ∧ K.lookup a = none) →
      codeAny (model P w) callerA (.call (.ref fa) ⟨[.ref a], []⟩) (fun r s' => r = .ok (.ret (.bool true)) ∧ OldK s.heap s'.heap ∧ s'.os = s.os ∧ AllBare s'.gens) s := by
    intro H ho hs hok hA
    have free : ∀ b o, s.heap.get? b = some o → (∀ u, H b = some u → False) → (hidT s.heap H).get? b = some o := fun b o e n => hidT_get e (by
      cases q : H b with
      | none => rfl
      | some u => exact (n u q).elim)
    have dic : ∀ b m, s.heap.Ns b m → (hidT s.heap H).Ns b m := fun b m z => by
      obtain ⟨o, es, ep, e, d, r⟩ := z
      refine ⟨o, es, ep, free b o e fun u q => ?_, d, r⟩
      rw [(hA b u q).1, ha] at e
      cases e
      cases (show Data.seq vs.toArray _ = Data.dict es ep from d)
    have kb : K.In (hidT s.heap H) := fun b o e => free b _ (kx b o e) fun u q => by
      rw [(hA b u q).1, (hA b u q).2] at e
      cases e
    have md : Mod K mg (hidT s.heap H) := ⟨kb, dic _ _ hns, ⟨mb, dic _ _ hb, hbb⟩, hlim.imp fun mc z => ⟨dic _ _ z.1, z.2⟩⟩
    have e0 : Env0 P w K mg (hidT s.heap H) callerA [] s H := ⟨rfl, md, fun b o e => of_hidT e, Nat.le_of_eq (hidT_size _ _), trivial, fun b hb => (nomatch hb), hok, .of_eq hg⟩
    refine codeAny_mono ((F _ kb (dic _ _ hns)).run callerA [] s H ⟨[.ref a], []⟩ [.ref a] [.ref a] _ hr rfl e0 (bind s (.ref a)) (.cons rfl .nil) (hsp H ho hs)) fun r s' z => ?_
    cases r with
    | error e => exact (show False from z).elim
    | ok fl =>
      cases fl with
      | next => exact (show False from z).elim
      | brk => exact (show False from z).elim
      | cont => exact (show False from z).elim
      | ret u =>
        obtain ⟨v, H', os, bare, un, hok', r', q⟩ := z
        have q2 : v = .bl true := q
        rw [q2] at r'
        obtain rfl : u = Value.bool true := r'
        refine ⟨rfl, .of_keep fun b o e => ?_, os, bare⟩
        rcases ho b with n | ⟨ob, xs, n⟩
        · exact un.keep b o e n (fun z => nomatch z) (fun z => nomatch z)
        · have e1 := (hok b _ n).1
          have e2 := (hok' b _ (un.frzs b ob _ n)).1
          rw [e1] at e
          cases e
          exact e2
  cases hk : K.lookup a with
  | some o =>
    have e := kx a o hk
    rw [ha] at e
    cases e
    exact go (fun _ => none) (fun _ => .inl rfl) (.inr ⟨_, vs.toArray, _, hk, rfl, rfl, rfl, by rw [List.size_toArray, lv]; exact hl, by simpa using rv⟩) (fun b u z => (nomatch z)) fun b u z => (nomatch z)
  | none =>
    have up : ∀ b, b ≠ a → upd (fun _ => none) a (.frz { cls := .type "list", data := .seq vs.toArray } (.lst (ns.map V.int))) b = none := fun b n => upd_ne n
    refine go (upd (fun _ => none) a (.frz { cls := .type "list", data := .seq vs.toArray } (.lst (ns.map V.int)))) (fun b => ?_) (.inl (.inr ⟨_, upd_same⟩)) (fun b u z => ?_) fun b u z => ⟨?_, hk⟩
    · by_cases n : b = a
      · rw [n]
        exact .inr ⟨_, _, upd_same⟩
      · exact .inl (up b n)
    · by_cases n : b = a
      · subst n
        rw [upd_same] at z
        cases z
        exact ⟨ha, by rw [List.length_map]; exact hl, vs, _, rv, ha⟩
      · rw [up b n] at z
        cases z
    · by_cases n : b = a
      · exact n
      · rw [up b n] at z
        cases z
theorem walk_ofG {l : PySem.W.OpenLaw} {n k : Nat} {q : Program} {loose : List Str} {XP : (Str → Option Value) → Heap → Prop} {YP : World → Heap → Prop} {d : DefRec} {K : Params → PySem.W.Frag} {sp : World → Sp} {x : Str}
    (hn : l.most = some n) (hn2 : n ≤ sizeLine) (hdf : d.params.defaults = []) (hr : Room k callerA) (hY : ∀ (w : World) (h : Heap), YP w h → (K w.params).In h)
    (F : ∀ (w : World) (mg : Str → Option Value) (fa : Addr) (h : Heap), (K w.params).In h → h.Ns mainGlobals mg → mg d.name = some (.ref fa) →
      ∃ fd : FuncData, (∀ (s : Shared) (u : Value), BindsTo s fd ⟨[u], []⟩ [(x, u)]) ∧ ∀ base : Heap, (K w.params).In base → base.Ns mainGlobals mg → FnG l.prog w (K w.params) mg base k fa fd [x] (sp w))
    (hsp : ∀ (w : World) (H : Hp) (a : Addr) (ns : List Int), ns.length ≤ n → (∀ z ∈ ns, Builtin.Int.intBits z ≤ 1048576) → L2.Only H → SqL (K w.params) H a (ns.map V.int) → sp w [.ref a] H (fun v _ => v = .bl true) E0) :
    PySem.W.WalkO q loose XP YP l.row.toRowW d [] (fun f vs => PySem.call f vs) := by
  refine Att.attach_callB hn hdf fun w s₀ s₁ mg mb fa o pm cd doc a vs ns G Y ho hd hcd hmg hobj hints hlen hbits hg => ?_
  obtain ⟨fd, hb, hF⟩ := F w mg fa _ (hY w _ Y) G.T.g hmg
  exact law_callG (hY w _ Y) G.T.g G.T.b G.T.builtins G.T.nolimit hg hobj hints (Nat.le_trans hlen hn2) hr hF hb fun H h1 h2 => hsp w H a ns hlen hbits h1 h2

/-- a heap without one object -/
def hide (H : Hp) (D : Addr) : Hp := fun b => if b = D then none else H b
theorem hide_at {H : Hp} {D b : Addr} {o : HO} (h : H b = some o) (n : b ≠ D) : hide H D b = some o := by
  unfold hide
  rw [if_neg n]
  exact h
theorem hide_none {H : Hp} {D : Addr} : hide H D D = none := by
  unfold hide
  rw [if_pos rfl]
theorem hide_same {H : Hp} {D : Addr} : Same (hide H D) H := fun b o e => by
  unfold hide at e
  split at e
  · cases e
  · exact e
theorem same_hide {B H : Hp} {D : Addr} (s : Same B H) (n : B D = none) : Same B (hide H D) := fun b o e => hide_at (s b o e) fun z => by rw [z, n] at e; cases e
theorem hide_upd {H : Hp} {D : Addr} {o : HO} : hide (upd H D o) D = hide H D := funext fun b => by
  unfold hide
  by_cases n : b = D
  · rw [if_pos n, if_pos n]
  · rw [if_neg n, if_neg n, upd_ne n]
theorem ix_us {us : List V} {c : Nat} (h : c < us.length) : ixN us.length (c : Int) = some c := by
  unfold ixN
  rw [if_pos (by omega), if_pos (by omega), Int.toNat_natCast]
theorem rel_one {m j x i : Nat} (h : j < m) : i ∈ [x] ↔ some i ∈ (List.replicate m (none : Option Nat)).set j (some x) := by
  constructor
  · intro z
    rw [List.mem_singleton.mp z]
    exact List.mem_of_getElem? (i := j) (List.getElem?_set_self (by rw [List.length_replicate]; exact h))
  · intro z
    rcases List.mem_or_eq_of_mem_set z with z | z
    · cases List.eq_of_mem_replicate z
    · cases z
      exact List.mem_singleton.mpr rfl
theorem rel_two {m j k x y i : Nat} (h : j < m) (h2 : k < m) (n : k ≠ j) : i ∈ [x, y] ↔ some i ∈ ((List.replicate m (none : Option Nat)).set j (some x)).set k (some y) := by
  constructor
  · intro z
    simp only [List.mem_cons, List.not_mem_nil, or_false] at z
    rcases z with rfl | rfl
    · refine List.mem_of_getElem? (i := j) ?_
      rw [List.getElem?_set_ne n]
      exact List.getElem?_set_self (by rw [List.length_replicate]; exact h)
    · exact List.mem_of_getElem? (i := k) (List.getElem?_set_self (by rw [List.length_set, List.length_replicate]; exact h2))
  · intro z
    rcases List.mem_or_eq_of_mem_set z with z | z
    · exact List.mem_cons.mpr (.inl (List.mem_singleton.mp ((rel_one h).mpr z)))
    · cases z
      simp
theorem rel_nil {m i : Nat} : i ∈ ([] : List Nat) ↔ some i ∈ List.replicate m (none : Option Nat) := by
  constructor
  · intro z
    exact absurd z List.not_mem_nil
  · intro z
    cases List.eq_of_mem_replicate z
/-- the things that are to be handed in, while they are laid -/
structure Mid (G H : Hp) (D q : Addr) (us : List V) (ds : List (Option Nat)) (ps : List Nat) (m : Nat) : Prop where
  sg : Same G (hide H D)
  eD : H D = some (.lst us)
  eq : hide H D q = some (.lst (ps.map natV))
  lu : us.length = m
  ld : ds.length = m
  it : ∀ (j : Nat) (v : V) (d : Option Nat), us[j]? = some v → ds[j]? = some d → It (hide H D) v d
theorem Mid.grow {G H H' : Hp} {D q : Addr} {us : List V} {ds : List (Option Nat)} {ps : List Nat} {m : Nat} (h : Mid G H D q us ds ps m) (s : Same H H') : Mid G H' D q us ds ps m := by
  have s2 : Same (hide H D) (hide H' D) := same_hide (hide_same.trans s) hide_none
  exact ⟨h.sg.trans s2, s _ _ h.eD, s2 _ _ h.eq, h.lu, h.ld, fun j v d a b => (h.it j v d a b).same s2⟩
theorem Mid.set {G H H' B : Hp} {D q : Addr} {us : List V} {ds : List (Option Nat)} {ps : List Nat} {m j : Nat} {v : V} {d : Option Nat} (h : Mid G H D q us ds ps m) (s : Same H H') (sb : Same B H') (hb : ∀ b o, H b = some o → B b = none) (hv : It B v d) :
    Mid G (upd H' D (.lst (us.set j v))) D q (us.set j v) (ds.set j d) ps m := by
  have h' := h.grow s
  have s3 : Same B (hide H' D) := same_hide sb (hb D _ h.eD)
  refine ⟨by rw [hide_upd]; exact h'.sg, upd_same, by rw [hide_upd]; exact h'.eq, by rw [List.length_set]; exact h.lu, by rw [List.length_set]; exact h.ld, fun k x y a b => ?_⟩
  rw [hide_upd]
  by_cases c : j = k
  · subst c
    have hj := (List.getElem?_eq_some_iff.mp a).1
    have hk := (List.getElem?_eq_some_iff.mp b).1
    rw [List.length_set] at hj hk
    rw [List.getElem?_set_self hj] at a
    rw [List.getElem?_set_self hk] at b
    cases Option.some.inj a
    cases Option.some.inj b
    exact hv.same s3
  · rw [List.getElem?_set_ne c] at a b
    exact h'.it k x y a b
theorem Mid.picks {G H : Hp} {D q q' : Addr} {us : List V} {ds : List (Option Nat)} {ps ps' : List Nat} {m : Nat} (h : Mid G H D q us ds ps m) (n : H q' = none) : Mid G (upd H q' (.lst (ps'.map natV))) D q' us ds ps' m := by
  have h' := h.grow (same_upd (o := .lst (ps'.map natV)) n)
  exact ⟨h'.sg, h'.eD, hide_at upd_same (fun z => by rw [z, h.eD] at n; cases n), h'.lu, h'.ld, h'.it⟩
/-- what is handed in -/
def Rdy (H : Hp) (us : List V) (c m pick : Nat) (ps : List Nat) : Prop := us.length ≤ 9 ∧ (∀ x ∈ us, DatAt H x) ∧ ((c = 0 ∧ us.length = m ∧ ∃ ds : List (Option Nat), us.length = ds.length ∧ (∀ (j : Nat) (v : V) (d : Option Nat), us[j]? = some v → ds[j]? = some d → It H v d) ∧ ∀ i, i ∈ ps ↔ some i ∈ ds) ∨ (c = 1 ∧ ∃ x, us = [x] ∧ PickAt H x pick) ∨ c = 2)
theorem Rdy.same {H H' : Hp} {us : List V} {c m pick : Nat} {ps : List Nat} (h : Rdy H us c m pick ps) (s : Same H H') : Rdy H' us c m pick ps := by
  obtain ⟨h1, h2, h3⟩ := h
  refine ⟨h1, fun x hx => (h2 x hx).keep (Same.keep s), ?_⟩
  rcases h3 with ⟨a, b, ds, d1, d2, d3⟩ | ⟨a, x, b, d⟩ | a
  · exact .inl ⟨a, b, ds, d1, fun j v d e1 e2 => (d2 j v d e1 e2).same s, d3⟩
  · exact .inr (.inl ⟨a, x, b, d.same s⟩)
  · exact .inr (.inr a)
theorem word_some {rr : Ref} (h : rr ≠ .BadSize) : ¬ V.str (wordR rr) = V.str ("" : Str) := by
  cases rr with
  | BadSize => exact absurd rfl h
  | _ => exact fun z => absurd (V.str.inj z) (by decide +kernel)
/-- the things that are due where a box is told -/
def toldDue (d : PyData) : List Th := if PyData.eqv d (.int 3) = true then [.num 5, .box 0] else [.num 0, .num 0]
theorem told_same {H : Hp} {v : V} {dv : PyData} {j : Nat} {fs : List Th} (pv : Pv H v dv) (ev : v = .int (plT bx0 j)) (hj : bx0[j]? = some fs) : fs.map (toPl bx0) = toldDue dv := by
  subst ev
  cases pv
  match j, hj with
  | 0, hj =>
    cases Option.some.inj (show some [Th.num 0, Th.num 0] = some fs from hj)
    unfold toldDue
    rw [if_neg (by show ¬ PyData.eqv (.int 0) (.int 3) = true; simp [PyData.eqv])]
    rfl
  | 1, hj =>
    cases Option.some.inj (show some [Th.num 5, Th.box 0] = some fs from hj)
    unfold toldDue
    rw [if_pos (by show PyData.eqv (.int 3) (.int 3) = true; simp [PyData.eqv])]
    rfl
  | j + 2, hj => exact absurd hj (by simp [bx0])
theorem FieldsAt.keep {H H' : Hp} {l : Addr} {fs : List Th} (h : FieldsAt H l fs) (s : Keep H H') : FieldsAt H' l fs := by
  obtain ⟨ts, e, hl, k⟩ := h
  exact ⟨ts, s _ _ e (fun _ _ _ z => nomatch z), hl, fun i t th a b => s _ _ (k i t th a b) fun _ _ _ z => nomatch z⟩
theorem fields_move {H : Hp} {l D : Addr} {us : List V} {fs : List Th} (h : FieldsAt H l fs) (el : H l = some (.lst us)) (eD : H D = some (.lst us)) : FieldsAt H D fs := by
  obtain ⟨ts, e, hl, k⟩ := h
  exact ⟨ts, by rw [eD, ← el, e], hl, k⟩
theorem Goes.dat {H : Hp} {x : V} {th : Th} (h : Goes H x th) : DatAt H x := by
  obtain ⟨t, rfl, e, ok, _⟩ := h
  cases th with
  | num n => exact ⟨_, fun K => .tup (.of e) (.cons (.str _) (.cons (.int _) .nil)), fr_tup (frs_cons (fr_up (fr_str (by decide +kernel) ⟨by decide +kernel, by decide +kernel⟩)) (frs_cons (fr_up (fr_int ok)) frs_nil)) (by simp)⟩
  | box k => exact ⟨_, fun K => .tup (.of e) (.cons (.str _) (.cons (.int _) .nil)), fr_tup (frs_cons (fr_up (fr_str (by decide +kernel) ⟨by decide +kernel, by decide +kernel⟩)) (frs_cons (fr_up (fr_int (by have : plT bx0 k < 10 ^ 60 := ok; omega))) frs_nil)) (by simp)⟩
theorem places_made {ths : List Th} : placesT 0 (bx0 ++ [ths]) = [0, 3] ++ (if 6 < sizeT (bx0 ++ [ths]) then [6] else []) := by
  have s6 : sizeT bx0 = 6 := rfl
  rw [placesT_append, sizeT_append, s6, if_pos (by show 6 < 6 + (1 + ths.length + 0); omega)]
  rfl
theorem places_put {j f : Nat} {fs : List Th} {th : Th} (hj : bx0[j]? = some fs) : sizeT (bx0.set j (fs.set f th)) = 6 ∧ placesT 0 (bx0.set j (fs.set f th)) = [0, 3] ++ (if 6 < sizeT (bx0.set j (fs.set f th)) then [6] else []) := by
  have s6 : sizeT (bx0.set j (fs.set f th)) = 6 := sizeT_set hj List.length_set
  refine ⟨s6, ?_⟩
  rw [s6, placesT_range, List.length_set, show plT (bx0.set j (fs.set f th)) = plT bx0 from funext fun k => pl_set hj List.length_set]
  rfl
theorem repr_facts {H : Hp} {us : List V} (h : ∀ x ∈ us, DatAt H x) (hl : us.length ≤ 9) : ∃ d : PyData, (∀ (K : PySem.W.Frag) (l : Addr), H l = some (.lst us) → Dp K H (.ref l) d) ∧ d.showable = true ∧ d.hasDict = false ∧ d.depth ≤ 60 ∧ d.shown.length ≤ sizeLine := by
  obtain ⟨ds, a, b, c⟩ := dat_all h
  have f := fr_of_lst (frs_of b)
  refine ⟨.list ds, fun K l e => .lst (.of e) (a K), f.sh, f.dc, Nat.le_trans f.dp (by decide), ?_⟩
  have w := f.wt
  have z := PyData.shown_le 64 (by decide) (.list ds) f.lf
  have e : sizeLine = 16777216 := by decide
  have w2 : (3000 + 1) * ds.length ≤ 3001 * 9 := Nat.mul_le_mul_left 3001 (by omega)
  have w3 : (64 + 2) * (PyData.list ds).weight ≤ 66 * 27009 := Nat.mul_le_mul_left 66 (by omega)
  omega
theorem called_ways {A : Adr} {K : PySem.W.Frag} {Q : VK} {H : Hp} {p r l : Addr} {us : List V} {c m pick : Nat} {ps : List Nat} {v u : V} {due : Str} (R : RoomAt A.c_Room H p r bx0 12) (el : H l = some (.lst us)) (hc : c ≤ 2) (hv : Kv H v) (hu : Kv H u) (rdy : Rdy H us c m pick ps) (hdue : due = if c = 0 then madeDue m ps else putDue c v u pick)
    (kr : ∀ rr H', rr ≠ .BadSize → wordR rr = due → Same H H' → Refd Q rr H')
    (km : c = 0 → due = "" → us.length = m → m ≤ 5 → ∀ (ths : List Th) (r' : Addr) (H' : Hp), ths.length = m → FieldsAt H l (ths.map (toPl bx0)) → (∀ k, Th.box k ∈ ths → k < bx0.length) → RoomAt A.c_Room H' p r' (bx0 ++ [ths]) 12 → (∀ b o, H b = some o → b ≠ p → H' b = some o) → Told Q (.int 6) H')
    (kp : c = 1 → due = "" → ∀ (x : V) (j f : Nat) (fs : List Th) (th : Th) (H' : Hp), us = [x] → v = .int (plT bx0 j) → u = .int f → bx0[j]? = some fs → f < 2 → Goes H x th → RoomAt A.c_Room H' p r (bx0.set j (fs.set f th)) 12 → (∀ b o, H b = some o → b ≠ r → H' b = some o) → Told Q .non H')
    (kt : c = 2 → due = "" → ∀ (j : Nat) (fs : List Th) (l' : Addr) (H' : Hp), v = .int (plT bx0 j) → bx0[j]? = some fs → Same H H' → FieldsAt H' l' (fs.map (toPl bx0)) → Told Q (.ref l') H') :
    ((c : Int) = 0 ∧ Way A Q fun Q' E' => sp_Rmade K A [.ref p, .ref l] H Q' E' ∨ sp_RmadeB K A [.ref p, .ref l] H Q' E' ∨ sp_RmadeX K A [.ref p, .ref l] H Q' E') ∨
    ((c : Int) = 1 ∧ ∃ (x : V) (xs : List V), H l = some (.lst (x :: xs)) ∧ Way A Q fun Q' E' => sp_Rput K A [.ref p, v, u, x] H Q' E' ∨ sp_RputX K A [.ref p, v, u, x] H Q' E' ∨ sp_RputF K A [.ref p, v, u, x] H Q' E' ∨ sp_RputB K A [.ref p, v, u, x] H Q' E' ∨ sp_RputN K A [.ref p, v, u, x] H Q' E') ∨
    ((c : Int) = 2 ∧ Way A Q fun Q' E' => sp_Rtold K A [.ref p, v] H Q' E' ∨ sp_RtoldX K A [.ref p, v] H Q' E') := by
  obtain ⟨h1, h2, h3⟩ := rdy
  rcases h3 with ⟨rfl, rfl, ds, d1, d2, d3⟩ | ⟨rfl, x, rfl, hx⟩ | rfl
  · rw [if_pos rfl] at hdue
    subst hdue
    exact .inl ⟨rfl, made_way R el d1 d2 d3 h1 kr fun e h5 ths r' H' a b c d e' => km rfl e rfl h5 ths r' H' a b c d e'⟩
  · rw [if_neg (by decide)] at hdue
    subst hdue
    exact .inr (.inl ⟨rfl, x, [], el, put_way R hv hu hx kr fun e j f fs th H' a b c d g R' bt => kp rfl e x j f fs th H' rfl a b c d g R' bt⟩)
  · rw [if_neg (by decide)] at hdue
    subst hdue
    exact .inr (.inr ⟨rfl, told_way R hv kr fun e j fs l' H' a b S F => kt rfl e j fs l' H' a b S F⟩)
/-! #### law -/
def sp_law (K : PySem.W.Frag) : Sp := fun vs H Q _ => ∃ (a : Addr) (ns : List Int), vs = [.ref a] ∧ SqL K H a (ns.map V.int) ∧ ns.length ≤ 63 ∧ (∀ z ∈ ns, Builtin.Int.intBits z ≤ 1048576) ∧ ∀ H', Q (.bl true) H'
theorem ok_law (T : Txt K mg A) : FnG P w K mg base 7 A.f_law A.d_law ["_law_script"] (sp_law K) := by
  refine fnG_of T.F_law sc_law (fun vs H Q E h => by obtain ⟨a, ns, rfl, hS, hl, hb, h⟩ := h; rfl) (fun cdv A' outer s H vs Q E hr hgu h => ⟨_, (pss_cons (ps_if (pt_not (pt_val (pe_call (ok_l_sizes_right T) (hr.mono (by decide)) (by rfl) T.m__law_sizes_right T.F_l_sizes_right.kp T.b_l_sizes_right .nil pass0 (pa_cons (pv 0) pa_nil))))
  (pss_one (ps_ret pe_bl))
  pss_nil)
  (pss_cons (ps_set (i := 1) sc_law.nd rfl (.inl rfl) (pe_make T.mkR (ok_Rinit T) (hr.mono (by decide)) (by rfl) T.m_Room T.b_Rinit .nil pass0 (pa_cons pe_int (pa_cons pe_int pa_nil))))
  (pss_cons (ps_expr (pe_meth (pv 1) T.clR T.me_Rmade (ok_Rmade T) (hr.mono (by decide)) T.b_Rmade .nil passL (pa_cons (pe_lst (pa_cons (pe_tup (pa_cons pe_str (pa_cons pe_int pa_nil))) (pa_cons (pe_tup (pa_cons pe_str (pa_cons pe_int pa_nil))) pa_nil))) pa_nil)))
  (pss_cons (ps_set (i := 2) sc_law.nd rfl (.inl rfl) (pe_ix (ix_listK (K := K) rfl) (pe_lst (pa_cons pe_int (pa_cons pe_int (pa_cons pe_int (pa_cons pe_int (pa_cons pe_int pa_nil)))))) (pe_op op_modI (pe_call (ok_l_at T) (hr.mono (by decide)) (by rfl) T.m__law_at T.F_l_at.kp T.b_l_at .nil pass0 (pa_cons (pv 0) (pa_cons pe_int pa_nil))) pe_int) (fun _ _ => rfl)))
  (pss_cons (ps_set (i := 3) sc_law.nd rfl (.inl rfl) (pe_op op_modI (pe_call (ok_l_at T) (hr.mono (by decide)) (by rfl) T.m__law_at T.F_l_at.kp T.b_l_at .nil pass0 (pa_cons (pv 0) (pa_cons pe_int pa_nil))) pe_int))
  (pss_cons (ps_set (i := 4) sc_law.nd rfl (.inl rfl) (pe_call (ok_l_drawn_place T) (hr.mono (by decide)) (by rfl) T.m__law_drawn_place T.F_l_drawn_place.kp T.b_l_drawn_place .nil pass0 (pa_cons (pe_call (ok_l_at T) (hr.mono (by decide)) (by rfl) T.m__law_at T.F_l_at.kp T.b_l_at .nil pass0 (pa_cons (pv 0) (pa_cons pe_int pa_nil))) pa_nil)))
  (pss_cons (ps_set (i := 5) sc_law.nd rfl (.inl rfl) (pe_call (ok_l_drawn_field T) (hr.mono (by decide)) (by rfl) T.m__law_drawn_field T.F_l_drawn_field.kp T.b_l_drawn_field .nil pass0 (pa_cons (pe_call (ok_l_at T) (hr.mono (by decide)) (by rfl) T.m__law_at T.F_l_at.kp T.b_l_at .nil pass0 (pa_cons (pv 0) (pa_cons pe_int pa_nil))) pa_nil)))
  (pss_cons (ps_set (i := 6) sc_law.nd rfl (.inl rfl) (pe_op op_modI (pe_call (ok_l_at T) (hr.mono (by decide)) (by rfl) T.m__law_at T.F_l_at.kp T.b_l_at .nil pass0 (pa_cons (pv 0) (pa_cons pe_int pa_nil))) pe_int))
  (pss_cons (ps_set (i := 7) sc_law.nd rfl (.inl rfl) (pe_op op_modI (pe_call (ok_l_at T) (hr.mono (by decide)) (by rfl) T.m__law_at T.F_l_at.kp T.b_l_at .nil pass0 (pa_cons (pv 0) (pa_cons pe_int pa_nil))) (pe_callB (call_max2 rfl) (by rfl) T.z_max (by decide +kernel) (pa_cons pe_int (pa_cons (pv 6) pa_nil)))))
  (pss_cons (ps_setLc (i := 8) (own := [("_law_k", 9)]) (g := gName 9) rfl sc_law.nd rfl rfl (sw_true rfl rfl rfl (by decide +kernel)) (pi_range1 rfl T.z_range (pa_cons (pv 6) pa_nil)) (blkOk_by (own := [("_law_k", 9)]) (N := ["_law_script", "_law_room", "_law_call", "_law_pick", "_law_place", "_law_field", "_law_many", "_law_at_here", "_law_things_here", "_law_k", "_law_picks", "_law_due", "_law_handed", "_law_found", "_law_told"]) (sc := defScope s_law) (by decide +kernel)) (fun _ _ _ _ _ => pg_name (i := 9) sc_law.nd rfl (.inl rfl)) (fun _ _ _ _ _ => pts_nil) (fun _ _ _ _ _ => (pe_tup (pa_cons pe_str (pa_cons (pv 9) pa_nil)))))
  (pss_cons (ps_set (i := 10) sc_law.nd rfl (.inl rfl) (pe_lst pa_nil))
  (Evl.pss_cut (ps_if (PW.pt (pw_and (pt_cmpR op_eq (pv 2) pe_int (nomark _)) (pw_and1 (pt_cmpR op_gtI (pv 6) pe_int (nomark _)))))
  (pss_cons (ps_asg (pe_ix (ix_listK (K := K) rfl) (pe_call0 (ok_l_things T) (hr.mono (by decide)) (by rfl) T.m__law_things T.F_l_things.kp T.b_l_things .nil pass0) (pv 3) (fun _ _ => rfl)) (pg_sub (pv 8) (pv 7) set_list))
  (pss_one (ps_set (i := 10) sc_law.nd rfl (.inl rfl) (pe_lst (pa_cons (pv 3) pa_nil)))))
  pss_nil)
  (Evl.pss_cut (ps_if (PW.pt (pw_and (pt_cmpR op_eq (pv 2) pe_int (nomark _)) (pw_and (pt_cmpR op_gtI (pv 6) pe_int (nomark _)) (pw_and1 (pt_cmpR op_eq (pe_op op_modI (pe_call (ok_l_at T) (hr.mono (by decide)) (by rfl) T.m__law_at T.F_l_at.kp T.b_l_at .nil pass0 (pa_cons (pv 0) (pa_cons pe_int pa_nil))) pe_int) pe_int (nomark _))))))
  (pss_cons (ps_set (i := 10) sc_law.nd rfl (.inl rfl) (pe_lst (pa_cons (pv 3) (pa_cons (pe_op op_modI (pe_op op_divI (pe_call (ok_l_at T) (hr.mono (by decide)) (by rfl) T.m__law_at T.F_l_at.kp T.b_l_at .nil pass0 (pa_cons (pv 0) (pa_cons pe_int pa_nil))) pe_int) pe_int) pa_nil))))
  (pss_one (ps_asg (pe_ix (ix_listK (K := K) rfl) (pe_call0 (ok_l_things T) (hr.mono (by decide)) (by rfl) T.m__law_things T.F_l_things.kp T.b_l_things .nil pass0) (pe_ix (ix_listK (K := K) rfl) (pv 10) pe_int (fun _ _ => rfl)) (fun _ _ => rfl)) (pg_sub (pv 8) (pe_op op_modI (pe_op op_addI (pv 7) pe_int) (pv 6)) set_list))))
  pss_nil)
  (Evl.pss_cut (ps_if (pt_cmpR op_eq (pv 2) pe_int (nomark _))
  (pss_one (ps_set (i := 8) sc_law.nd rfl (.inl rfl) (pe_lst (pa_cons (pe_ix (ix_listK (K := K) rfl) (pe_call0 (ok_l_things T) (hr.mono (by decide)) (by rfl) T.m__law_things T.F_l_things.kp T.b_l_things .nil pass0) (pv 3) (fun _ _ => rfl)) pa_nil))))
  pss_nil)
  (pss_cons (ps_set (i := 11) sc_law.nd rfl (.inl rfl) (pe_call (ok_l_put_due T) (hr.mono (by decide)) (by rfl) T.m__law_put_due T.F_l_put_due.kp T.b_l_put_due .nil pass0 (pa_cons (pv 2) (pa_cons (pv 4) (pa_cons (pv 5) (pa_cons (pv 3) pa_nil))))))
  (Evl.pss_cut (ps_if (pt_cmpR op_eq (pv 2) pe_int (nomark _))
  (pss_one (ps_set (i := 11) sc_law.nd rfl (.inl rfl) (pe_call (ok_l_made_due T) (hr.mono (by decide)) (by rfl) T.m__law_made_due T.F_l_made_due.kp T.b_l_made_due .nil pass0 (pa_cons (pv 6) (pa_cons (pv 10) pa_nil)))))
  pss_nil)
  (pss_cons (ps_set (i := 12) sc_law.nd rfl (.inl rfl) (pe_callTy (call_list_ofK (K := K) rfl) (by rfl) T.z_list (by decide +kernel) (pa_cons (pv 8) pa_nil)))
  (pss_cons (ps_set (i := 13) sc_law.nd rfl (.inl rfl) (pe_call (ok_l_called T) (hr.mono (by decide)) (by rfl) T.m__law_called T.F_l_called.kp T.b_l_called .nil pass0 (pa_cons (pv 1) (pa_cons (pv 2) (pa_cons (pv 12) (pa_cons (pv 4) (pa_cons (pv 5) pa_nil)))))))
  (pss_cons (ps_if (PW.pt (pw_or (pt_cmpR op_ne (pe_ix (ix_tupK (K := K) rfl) (pv 13) pe_int (fun _ _ => rfl)) (pv 11) (nomark _)) (pw_or1 (pt_cmpR op_ne (pe_callB (call_reprD (K := K) rfl hgu hr.units) (by rfl) T.z_repr (by decide +kernel) (pa_cons (pv 12) pa_nil)) (pe_callB (call_reprD (K := K) rfl hgu hr.units) (by rfl) T.z_repr (by decide +kernel) (pa_cons (pv 8) pa_nil)) (nomark _)))))
  (pss_one (ps_ret pe_bl))
  pss_nil)
  (pss_cons (ps_if (PW.pt (pw_or (pt_cmpR op_ne (pv 11) pe_str (nomark _)) (pw_or1 (pt_cmpR op_eq (pv 2) pe_int (nomark _)))))
  (pss_cons (ps_set (i := 14) sc_law.nd rfl (.inl rfl) (pe_lst (pa_cons (pe_tup (pa_cons pe_str (pa_cons pe_int pa_nil))) (pa_cons (pe_tup (pa_cons pe_str (pa_cons pe_int pa_nil))) pa_nil))))
  (Evl.pss_cut (ps_if (pt_cmpR (op_eqDK (K := K) rfl hr.units) (pv 4) pe_int (nomark _))
  (pss_one (ps_set (i := 14) sc_law.nd rfl (.inl rfl) (pe_lst (pa_cons (pe_tup (pa_cons pe_str (pa_cons pe_int pa_nil))) (pa_cons (pe_tup (pa_cons pe_str (pa_cons pe_int pa_nil))) pa_nil)))))
  pss_nil)
  (pss_cons (ps_if (PW.pt (pw_and (pt_cmpR op_eq (pv 11) pe_str (nomark _)) (pw_and1 (pt_cmpR (op_neDK (K := K) rfl hr.units) (pe_ix (ix_tupK (K := K) rfl) (pv 13) pe_int (fun _ _ => rfl)) (pv 14) (nomark _)))))
  (pss_one (ps_ret pe_bl))
  pss_nil)
  (pss_one (ps_ret (pe_call (ok_l_sound T) (hr.mono (by decide)) (by rfl) T.m__law_sound T.F_l_sound.kp T.b_l_sound .nil pass0 (pa_cons (pv 1) (pa_cons (pe_lst (pa_cons pe_int (pa_cons pe_int (pa_cons pe_int (pa_cons pe_int (pa_cons pe_int (pa_cons pe_int (pa_cons pe_int (pa_cons pe_int (pa_cons pe_int (pa_cons pe_int (pa_cons pe_int (pa_cons pe_int pa_nil))))))))))))) (pa_cons pe_int pa_nil)))))))))
  pss_nil)
  (pss_cons (ps_if (PW.pt (pw_or (PW.pt (pw_and (pt_cmpR op_eq (pv 2) pe_int (nomark _)) (pw_and1 (PW.pt (pw_or (pt_not (pt_val (pe_call (ok_l_is_int T) (hr.mono (by decide)) (by rfl) T.m__law_is_int T.F_l_is_int.kp T.b_l_is_int .nil pass0 (pa_cons (pe_ix (ix_tupK (K := K) rfl) (pv 13) pe_int (fun _ _ => rfl)) pa_nil)))) (pw_or1 (pt_cmpR (op_neDK (K := K) rfl hr.units) (pe_ix (ix_tupK (K := K) rfl) (pv 13) pe_int (fun _ _ => rfl)) pe_int (nomark _)))))))) (pw_or1 (PW.pt (pw_and (pt_cmpR op_eq (pv 2) pe_int (nomark _)) (pw_and1 (pt_cmpR op_notN (pe_ix (ix_tupK (K := K) rfl) (pv 13) pe_int (fun _ _ => rfl)) pe_non (nomark _))))))))
  (pss_one (ps_ret pe_bl))
  pss_nil)
  (pss_one (ps_ret (pe_call (ok_l_sound T) (hr.mono (by decide)) (by rfl) T.m__law_sound T.F_l_sound.kp T.b_l_sound .nil pass0 (pa_cons (pv 1) (pa_cons (pe_call (ok_l_behind T) (hr.mono (by decide)) (by rfl) T.m__law_behind T.F_l_behind.kp T.b_l_behind .nil pass0 (pa_cons (pv 2) (pa_cons (pv 8) (pa_cons (pv 4) (pa_cons (pv 5) pa_nil))))) (pa_cons (pe_op op_addI pe_int (pe_op op_mulI (pe_callTy call_int1 (by rfl) T.z_int (by decide +kernel) (pa_cons (pe_cmpR op_eq (pv 2) pe_int (nomark _)) pa_nil)) (pe_op op_addI pe_int (pv 6)))) pa_nil))))))))))))))))))))))))))), ?_⟩)
  obtain ⟨a, ns, rfl, hS, hl, hb, h⟩ := h
  have hl' : ns.length ≤ 1000 := by omega
  walk_at "rd"
  refine ⟨a, ns, rfl, hS, hl', fun H1 s1 => ?_⟩
  walk_at "rd"
  intro p dx hp hdx hne
  have s0 : Same H1 (upd (upd H1 dx (.own p)) p (.ins A.c_Room dx [])) := fun b o e => by
    rw [upd_ne (ne_of_none e hp), upd_ne (ne_of_none e hdx)]
    exact e
  refine ⟨p, dx, 12, 2, rfl, upd_same, by decide, by decide, by decide, fun r H2 hr2 R bt => ?_⟩
  have S2 : Same H1 H2 := fun b o e => bt b o (s0 _ _ e) (ne_of_none e hp)
  have S2 := s1.trans S2
  have hp0 : H p = none := s1.free hp
  clear bt s0 hp hdx hne s1
  obtain ⟨⟨dx1, eo⟩, er⟩ := id R
  walk_at "rd"
  refine ⟨p, dx1, _, rfl, eo, rmf_no _ _ (by decide +kernel) (by decide +kernel), ?_⟩
  walk_at "rd"
  refine ⟨by show 2 ≤ sizeLine; decide, fun t1 n1 => ?_⟩
  have u1 := same_upd (o := .tup [V.str "number", V.int 5]) n1
  walk_at "rd"
  refine ⟨by show 2 ≤ sizeLine; decide, fun t2 n2 => ?_⟩
  have u2 := same_upd (o := .tup [V.str "box", V.int 0]) n2
  walk_at "rd"
  refine ⟨by show 2 ≤ sizeLine; decide, fun l1 n3 => ?_⟩
  have u3 := same_upd (o := .lst [V.ref t1, V.ref t2]) n3
  have F : FieldsAt (upd (upd (upd H2 t1 (.tup [V.str "number", V.int 5])) t2 (.tup [V.str "box", V.int 0])) l1 (.lst [V.ref t1, V.ref t2])) l1 ([Th.num 5, Th.box 0].map (toPl [List.replicate 2 (Th.num 0)])) := fields2 upd_same (u3 _ _ (u2 _ _ upd_same)) (u3 _ _ upd_same)
  have U := u1.trans (u2.trans u3)
  revert F U
  generalize upd (upd (upd H2 t1 (.tup [V.str "number", V.int 5])) t2 (.tup [V.str "box", V.int 0])) l1 (.lst [V.ref t1, V.ref t2]) = H3
  intro F U
  walk_at "rd"
  have ok00 : RoomOk [List.replicate 2 (Th.num 0)] 12 := ⟨(fun fs hf k hk => by rw [List.mem_singleton.mp hf] at hk; cases (List.eq_of_mem_replicate hk)), by decide, by decide, by decide⟩
  refine ⟨p, r, l1, [List.replicate 2 (Th.num 0)], 12, [Th.num 5, Th.box 0], rfl, R.same U, ok00, F, fun th hth => ?_, fun k hk => ?_, by decide, fun _ r' H4 _ R4 bt => ?_, fun hz => absurd hz (by decide)⟩
  · simp only [List.mem_cons, List.not_mem_nil, or_false] at hth
    rcases hth with rfl | rfl
    · show (5 : Int).natAbs < 10 ^ 60
      decide +kernel
    · show (0 : Nat) < 10 ^ 60
      decide +kernel
  · simp only [List.mem_cons, List.not_mem_nil, or_false] at hk
    rcases hk with hk | hk
    · cases hk
    · cases hk
      decide
  have R4 : RoomAt A.c_Room H4 p r' bx0 12 := R4
  have S4 : Same H H4 := fun b o e => bt b o (U _ _ (S2 _ _ e)) (ne_of_none e hp0)
  clear bt F U u1 u2 u3 n1 n2 n3 S2 R er eo hp0 ok00
  walk_at "rd"
  -- which call
  refine ⟨by show 5 ≤ sizeLine; decide, fun q1 m1 => ?_⟩
  have u1 := same_upd (o := .lst [V.int 0, V.int 0, V.int 1, V.int 1, V.int 2]) m1
  walk_at "rd"
  refine ⟨a, ns, 2, rfl, (S4.trans u1).seq hS, hl', fun H5 u2 => ?_⟩
  obtain ⟨c5, ec5, hc5⟩ := mod_nat (n := 5) (cell ns 2) (by decide)
  walk_at "rd"
  rw [show cell ns 2 % 5 = (c5 : Int) from ec5]
  obtain ⟨c, gc, hc⟩ : ∃ c : Nat, ([V.int 0, V.int 0, V.int 1, V.int 1, V.int 2] : List V)[c5]? = some (.int (c : Int)) ∧ c ≤ 2 := by
    match c5, hc5 with
    | 0, _ => exact ⟨0, rfl, by decide⟩
    | 1, _ => exact ⟨0, rfl, by decide⟩
    | 2, _ => exact ⟨1, rfl, by decide⟩
    | 3, _ => exact ⟨1, rfl, by decide⟩
    | 4, _ => exact ⟨2, rfl, by decide⟩
    | k + 5, h => exact absurd h (by omega)
  refine ⟨q1, _, (c5 : Int), .int (c : Int), rfl, rfl, .of (u2 _ _ upd_same), atI_nat gc, ?_⟩
  have S5 := S4.trans (u1.trans u2)
  have R5 := R4.same (u1.trans u2)
  clear gc m1 u1 u2 S4 R4 ec5 hc5
  walk_at "rd"
  refine ⟨a, ns, 3, rfl, S5.seq hS, hl', fun H6 u1 => ?_⟩
  obtain ⟨pick, epick, hpick⟩ := mod_nat (n := 25) (cell ns 3) (by decide)
  walk_at "rd"
  rw [show cell ns 3 % 25 = (pick : Int) from epick]
  have S6 := S5.trans u1
  have R6 := R5.same u1
  clear u1 S5 R5 epick
  walk_at "rd"
  refine ⟨a, ns, 4, rfl, S6.seq hS, hl', fun H7 u1 => ?_⟩
  walk_at "rd"
  refine fun v dv H8 u2 pv => ?_
  have S8 := S6.trans (u1.trans u2)
  have R8 := R6.same (u1.trans u2)
  clear u1 u2 S6 R6
  walk_at "rd"
  refine ⟨a, ns, 5, rfl, S8.seq hS, hl', fun H9 u1 => ?_⟩
  walk_at "rd"
  refine fun u du H10 u2 pu => ?_
  have S10 := S8.trans (u1.trans u2)
  have R10 := R8.same (u1.trans u2)
  have pv := pv.same (u1.trans u2)
  clear u1 u2 S8 R8
  walk_at "rd"
  refine ⟨a, ns, 6, rfl, S10.seq hS, hl', fun H11 u1 => ?_⟩
  obtain ⟨m, em, hm⟩ := mod_nat (n := 10) (cell ns 6) (by decide)
  walk_at "rd"
  rw [show cell ns 6 % 10 = (m : Int) from em]
  have S11 := S10.trans u1
  have R11 := R10.same u1
  have pv := pv.same u1
  have pu := pu.same u1
  clear u1 S10 R10 em
  walk_at "rd"
  refine ⟨a, ns, 7, rfl, S11.seq hS, hl', fun H12 u1 => ?_⟩
  walk_at "rd"
  have emx : (if (m : Int) > 1 then (m : Int) else 1) = ((max 1 m : Nat) : Int) := by split <;> omega
  rw [emx]
  refine ⟨by omega, ?_⟩
  obtain ⟨at0, eat, hat⟩ := mod_nat (n := max 1 m) (cell ns 7) (by omega)
  rw [show cell ns 7 % ((max 1 m : Nat) : Int) = (at0 : Int) from eat]
  have S12 := S11.trans u1
  have R12 := R11.same u1
  have pv := pv.same u1
  have pu := pu.same u1
  clear u1 S11 R11 eat emx
  walk_at "rd"
  refine ⟨by omega, by omega, fun D hD => lc_range (lo := 0) (n := _) (fun i H' => Same H12 H' ∧ ∃ ts : List Addr, H' D = some (.lst (ts.map V.ref)) ∧ ts.length = i ∧ ∀ (j : Nat) (t : Addr), ts[j]? = some t → hide H' D t = some (.tup [.str "number", .int (j : Int)])) ⟨same_upd hD, [], upd_same, rfl, fun j t e => absurd e (by simp)⟩ (fun i H' hi p => ?_) (fun H13 p => ?_)⟩
  · obtain ⟨q1, ts, eD, lt, ht⟩ := p
    rw [Int.toNat_natCast] at hi
    refine ⟨rfl, ?_⟩
    walk_at "rd"
    refine ⟨by show 2 ≤ sizeLine; decide, fun t nt => ?_⟩
    have s2 := same_upd (o := .tup [V.str "number", V.int (0 + (i : Int))]) nt
    have nDt : t ≠ D := fun z => by rw [z, eD] at nt; cases nt
    refine ⟨ts.map V.ref, s2 _ _ eD, sz2001 (by rw [List.length_map]; omega), same_mut hD (q1.trans s2), ts ++ [t], by rw [upd_same, List.map_append]; rfl, by rw [List.length_append, lt]; rfl, fun j t' e => ?_⟩
    rw [hide_upd]
    by_cases c : j < ts.length
    · rw [List.getElem?_append_left c] at e
      exact same_hide (hide_same.trans s2) hide_none _ _ (ht j t' e)
    · rw [List.getElem?_append_right (by omega)] at e
      have hj := (List.getElem?_eq_some_iff.mp e).1
      have hj : j - ts.length < 1 := hj
      rw [show j - ts.length = 0 by omega] at e
      cases Option.some.inj (show some t = some t' from e)
      rw [show j = i by omega]
      refine hide_at ?_ nDt
      rw [upd_same, Int.zero_add]
  obtain ⟨S13, ts, eD, lt, ht⟩ := p
  rw [Int.toNat_natCast] at lt
  walk_at "rd"
  refine ⟨by show 0 ≤ sizeLine; decide, fun q nq => ?_⟩
  have M0 : Mid H12 (upd H13 q (.lst [])) D q (ts.map V.ref) (List.replicate m none) [] m := by
    have s2 := same_upd (o := .lst []) nq
    have s3 : Same (hide H13 D) (hide (upd H13 q (.lst [])) D) := same_hide (hide_same.trans s2) hide_none
    refine ⟨same_hide (S13.trans s2) hD, s2 _ _ eD, hide_at upd_same (fun z => by rw [z, eD] at nq; cases nq), by rw [List.length_map, lt], List.length_replicate, fun j x d a b => ?_⟩
    obtain ⟨t, ea, rfl⟩ := ref_get a
    have hj := (List.getElem?_eq_some_iff.mp b).1
    rw [List.length_replicate] at hj
    rw [List.getElem?_replicate, if_pos hj] at b
    cases Option.some.inj b
    exact ⟨t, j, rfl, s3 _ _ (ht j t ea), by omega⟩
  revert M0
  generalize upd H13 q (.lst []) = H14
  intro M0
  clear nq ht eD S13 lt hD
  refine ⟨fun σ' H' => ∃ (D q : Addr) (us : List V) (ds : List (Option Nat)) (ps : List Nat), σ' = ([some (.ref a), some (.ref p), some (.int (c : Int)), some (.int (pick : Int)), some v, some u, some (.int (m : Int)), some (.int (at0 : Int)), some (.ref D), none, some (.ref q), none, none, none, none] : L2.St) ∧ Mid H12 H' D q us ds ps m ∧
    ((c = 0 ∧ 0 < m ∧ ps = [pick] ∧ ds = (List.replicate m none).set at0 (some pick)) ∨ (¬ (c = 0 ∧ 0 < m) ∧ ps = [] ∧ ds = List.replicate m none)), ?_, ?_⟩
  · walk_at "rd"
    by_cases c0 : c = 0
    · subst c0
      refine ifT (decide_eq_true rfl) ?_
      walk_at "rd"
      by_cases m0 : 0 < m
      · refine ifT (decide_eq_true (by omega)) ?_
        walk_at "rd"
        refine fun q2 H15 B L u1 ub hb2 eL lL hL => ?_
        have gx : L[pick]? = some L[pick] := List.getElem?_eq_getElem (by omega)
        have hx := hL pick _ gx
        revert gx hx
        generalize L[pick] = x
        intro gx hx
        walk_at "rd"
        refine ⟨q2, L, (pick : Int), x, rfl, rfl, .of eL, atI_nat gx, ?_⟩
        walk_at "rd"
        have hj : at0 < m := by omega
        refine ⟨D, ts.map V.ref, _, at0, rfl, rfl, u1 _ _ M0.eD, ix_us (by rw [M0.lu]; exact hj), ?_⟩
        have M1 := M0.set (j := at0) (d := some pick) u1 ub hb2 hx
        walk_at "rd"
        refine ⟨by show 1 ≤ sizeLine; decide, fun q3 n3 => ?_⟩
        exact ⟨D, q3, _, _, [pick], rfl, M1.picks (ps' := [pick]) n3, .inl ⟨rfl, m0, rfl, rfl⟩⟩
      · refine ifF (decide_eq_false (by omega)) ?_
        exact ⟨D, q, _, _, _, rfl, M0, .inr ⟨fun z => m0 z.2, rfl, rfl⟩⟩
    · refine ifF (decide_eq_false fun z => c0 (by have := V.int.inj z; omega)) ?_
      exact ⟨D, q, _, _, _, rfl, M0, .inr ⟨fun z => c0 z.1, rfl, rfl⟩⟩
  clear M0 ts D q H13 H14
  rintro σ' H14 ⟨D, q, us, ds, ps, rfl, M, hds⟩
  refine ⟨fun σ' H' => ∃ (D q : Addr) (us : List V) (ds : List (Option Nat)) (ps : List Nat), σ' = ([some (.ref a), some (.ref p), some (.int (c : Int)), some (.int (pick : Int)), some v, some u, some (.int (m : Int)), some (.int (at0 : Int)), some (.ref D), none, some (.ref q), none, none, none, none] : L2.St) ∧ Mid H12 H' D q us ds ps m ∧
    (c = 0 → ∀ i, i ∈ ps ↔ some i ∈ ds) ∧ ps.length ≤ 2, ?_, ?_⟩
  · have stay : ∃ (D' q' : Addr) (us' : List V) (ds' : List (Option Nat)) (ps' : List Nat), ([some (.ref a), some (.ref p), some (.int (c : Int)), some (.int (pick : Int)), some v, some u, some (.int (m : Int)), some (.int (at0 : Int)), some (.ref D), none, some (.ref q), none, none, none, none] : L2.St) = ([some (.ref a), some (.ref p), some (.int (c : Int)), some (.int (pick : Int)), some v, some u, some (.int (m : Int)), some (.int (at0 : Int)), some (.ref D'), none, some (.ref q'), none, none, none, none] : L2.St) ∧ Mid H12 H14 D' q' us' ds' ps' m ∧
        (c = 0 → ∀ i, i ∈ ps' ↔ some i ∈ ds') ∧ ps'.length ≤ 2 := by
      refine ⟨D, q, us, ds, ps, rfl, M, fun _ i => ?_, ?_⟩
      · rcases hds with ⟨_, h2, rfl, rfl⟩ | ⟨_, rfl, rfl⟩
        · exact rel_one (by omega)
        · exact rel_nil
      · rcases hds with ⟨_, h2, rfl, rfl⟩ | ⟨_, rfl, rfl⟩ <;> simp
    walk_at "rd"
    by_cases c0 : c = 0
    · refine ifT (decide_eq_true (by rw [c0]; rfl)) ?_
      walk_at "rd"
      by_cases m1 : 1 < m
      · refine ifT (decide_eq_true (by omega)) ?_
        walk_at "rd"
        refine ⟨a, ns, 8, rfl, (S12.trans (M.sg.trans hide_same)).seq hS, hl', fun H15 u1 => ?_⟩
        walk_at "rd"
        by_cases c2 : cell ns 8 % 2 = 0
        · refine ifT (decide_eq_true (by rw [c2])) ?_
          rcases hds with ⟨_, h2, rfl, rfl⟩ | ⟨n2, _⟩
          · walk_at "rd"
            refine ⟨a, ns, 8, rfl, (S12.trans (M.sg.trans (hide_same.trans u1))).seq hS, hl', fun H16 u2 => ?_⟩
            obtain ⟨pick2, ep2, hp2⟩ := mod_nat (n := 25) (cell ns 8 / 2) (by decide)
            walk_at "rd"
            rw [show cell ns 8 / 2 % 25 = (pick2 : Int) from ep2]
            walk_at "rd"
            refine ⟨by show 2 ≤ sizeLine; decide, fun q3 n3 => ?_⟩
            have M2 := (M.grow (u1.trans u2)).picks (ps' := [pick, pick2]) n3
            have e3 : (upd H16 q3 (.lst [V.int (pick : Int), V.int (pick2 : Int)])) q3 = some (.lst [V.int (pick : Int), V.int (pick2 : Int)]) := upd_same
            revert M2 e3
            show Mid H12 (upd H16 q3 (.lst [V.int (pick : Int), V.int (pick2 : Int)])) D q3 us ((List.replicate m none).set at0 (some pick)) [pick, pick2] m → _
            generalize upd H16 q3 (.lst [V.int (pick : Int), V.int (pick2 : Int)]) = H17
            intro M2 e3
            walk_at "rd"
            refine fun q2 H18 B L u3 ub hb2 eL lL hL => ?_
            have gx : L[pick2]? = some L[pick2] := List.getElem?_eq_getElem (by omega)
            have hx := hL pick2 _ gx
            revert gx hx
            generalize L[pick2] = x
            intro gx hx
            walk_at "rd"
            refine ⟨q3, _, 1, .int (pick2 : Int), rfl, rfl, .of (u3 _ _ e3), rfl, ?_⟩
            refine ⟨q2, L, (pick2 : Int), x, rfl, rfl, .of eL, atI_nat gx, ?_⟩
            walk_at "rd"
            refine ⟨by omega, ?_⟩
            have hat0 : at0 < m := by omega
            have hk : (at0 + 1) % m < m := Nat.mod_lt _ h2
            have nk : (at0 + 1) % m ≠ at0 := by
              by_cases z : at0 + 1 < m
              · rw [Nat.mod_eq_of_lt z]
                omega
              · rw [show at0 + 1 = m by omega, Nat.mod_self]
                omega
            rw [show ((at0 : Int) + 1) % (m : Int) = (((at0 + 1) % m : Nat) : Int) by rw [Int.natCast_emod]; rfl]
            refine ⟨D, us, _, (at0 + 1) % m, rfl, rfl, u3 _ _ M2.eD, ix_us (by rw [M2.lu]; exact hk), ?_⟩
            have M3 := M2.set (j := (at0 + 1) % m) (d := some pick2) u3 ub hb2 hx
            exact ⟨D, q3, _, _, _, rfl, M3, fun _ i => rel_two hat0 hk nk, Nat.le_refl 2⟩
          · exact absurd ⟨c0, by omega⟩ n2
        · refine ifF (decide_eq_false fun z => c2 (by have := V.int.inj z; omega)) ?_
          obtain ⟨D', q', us', ds', ps', e, M', r⟩ := stay
          exact ⟨D', q', us', ds', ps', e, M'.grow u1, r⟩
      · refine ifF (decide_eq_false (by omega)) ?_
        exact stay
    · refine ifF (decide_eq_false fun z => c0 (by have := V.int.inj z; omega)) ?_
      exact stay
  clear hds M ps ds us D q H14
  rintro σ' H14 ⟨D, q, us, ds, ps, rfl, M, rel, lp⟩
  refine ⟨fun σ' H' => ∃ (D q : Addr) (us : List V) (ps : List Nat), σ' = ([some (.ref a), some (.ref p), some (.int (c : Int)), some (.int (pick : Int)), some v, some u, some (.int (m : Int)), some (.int (at0 : Int)), some (.ref D), none, some (.ref q), none, none, none, none] : L2.St) ∧ Same H12 H' ∧ H' D = some (.lst us) ∧ H' q = some (.lst (ps.map natV)) ∧ ps.length ≤ 2 ∧ Rdy H' us c m pick ps, ?_, ?_⟩
  · have Sg := M.sg.trans hide_same
    have dat : ∀ x ∈ us, DatAt H14 x := fun x hx => by
      obtain ⟨j, hj, e⟩ := List.mem_iff_getElem.mp hx
      have hd : j < ds.length := by rw [M.ld, ← M.lu]; exact hj
      exact (M.it j x ds[j] (by rw [List.getElem?_eq_getElem hj, e]) (List.getElem?_eq_getElem hd)).dat.keep (Same.keep hide_same)
    walk_at "rd"
    by_cases c1 : c = 1
    · refine ifT (decide_eq_true (by rw [c1]; rfl)) ?_
      walk_at "rd"
      refine fun q2 H15 B L u1 ub hb2 eL lL hL => ?_
      have gx : L[pick]? = some L[pick] := List.getElem?_eq_getElem (by omega)
      have hx := hL pick _ gx
      revert gx hx
      generalize L[pick] = x
      intro gx hx
      walk_at "rd"
      refine ⟨q2, L, (pick : Int), x, rfl, rfl, .of eL, atI_nat gx, ?_⟩
      walk_at "rd"
      refine ⟨by show 1 ≤ sizeLine; decide, fun D2 nD2 => ?_⟩
      have u2 := same_upd (o := .lst [x]) nD2
      refine ⟨D2, q, [x], ps, rfl, Sg.trans (u1.trans u2), upd_same, u2 _ _ (u1 _ _ (hide_same _ _ M.eq)), lp, by show 1 ≤ 9; decide, fun y hy => ?_, .inr (.inl ⟨c1, x, rfl, (hx.1.same ub).same u2⟩)⟩
      rw [List.mem_singleton.mp hy]
      exact hx.2.keep (Same.keep (ub.trans u2))
    · refine ifF (decide_eq_false fun z => c1 (by have := V.int.inj z; omega)) ?_
      refine ⟨D, q, us, ps, rfl, Sg, M.eD, hide_same _ _ M.eq, lp, by have := M.lu; omega, dat, ?_⟩
      by_cases c0 : c = 0
      · exact .inl ⟨c0, M.lu, ds, by rw [M.lu, M.ld], fun j x d e1 e2 => (M.it j x d e1 e2).same hide_same, rel c0⟩
      · exact .inr (.inr (by omega))
  clear lp rel M ps ds us D q H14
  rintro σ' H14 ⟨D, q, us, ps, rfl, S14, eD, eq, lp, rdy⟩
  walk_at "rd"
  have pv14 := pv.same S14
  have pu14 := pu.same S14
  refine ⟨c, v, u, dv, pick, rfl, pv14, pu14.kv, fun H15 u1 => ?_⟩
  have S15 := S14.trans u1
  have eD := u1 _ _ eD
  have eq := u1 _ _ eq
  have rdy := rdy.same u1
  clear u1 S14 pv14 pu14
  walk_at "rd"
  refine ⟨fun σ' H' => ∃ due : Str, σ' = ([some (.ref a), some (.ref p), some (.int (c : Int)), some (.int (pick : Int)), some v, some u, some (.int (m : Int)), some (.int (at0 : Int)), some (.ref D), none, some (.ref q), some (.str due), none, none, none] : L2.St) ∧ Same H12 H' ∧ H' D = some (.lst us) ∧ Rdy H' us c m pick ps ∧ due = (if c = 0 then madeDue m ps else putDue c v u pick), ?_, ?_⟩
  · walk_at "rd"
    by_cases c0 : c = 0
    · refine ifT (decide_eq_true (by rw [c0]; rfl)) ?_
      walk_at "rd"
      refine ⟨m, q, ps, rfl, eq, by omega, fun H16 u1 => ?_⟩
      exact ⟨_, rfl, S15.trans u1, u1 _ _ eD, rdy.same u1, by rw [if_pos c0]⟩
    · refine ifF (decide_eq_false fun z => c0 (by have := V.int.inj z; omega)) ?_
      exact ⟨_, rfl, S15, eD, rdy, by rw [if_neg c0]⟩
  clear rdy eq eD S15
  rintro σ' H14 ⟨due, rfl, S14, eD, rdy, hdue⟩
  have R14 := R12.same S14
  have pv14 := pv.same S14
  have pu14 := pu.same S14
  walk_at "rd"
  refine ⟨D, _, rfl, .inl (.of eD), fun l nl => ?_⟩
  have u1 := same_upd (o := .lst us) nl
  have el : (upd H14 l (.lst us)) l = some (.lst us) := upd_same
  have eD := u1 _ _ eD
  have rdy := rdy.same u1
  have R15 := R14.same u1
  have pv15 := pv14.same u1
  have pu15 := pu14.same u1
  have S15 := S14.trans u1
  revert el eD rdy R15 pv15 pu15 S15
  generalize upd H14 l (.lst us) = H15
  intro el eD rdy R15 pv15 pu15 S15
  clear u1 nl R14 pv14 pu14 S14
  walk_at "rd"
  refine ⟨p, r', l, bx0, 12, c, v, u, rfl, R15, called_ways R15 el hc pv15.kv pu15.kv rdy hdue ?_ ?_ ?_ ?_⟩
  · intro rr H16 nb hw S16 t nt
    have u1 := S16.trans (same_upd (o := .tup [V.str (wordR rr), V.non]) nt)
    have et : (upd H16 t (.tup [V.str (wordR rr), V.non])) t = some (.tup [V.str (wordR rr), V.non]) := upd_same
    have el16 := u1 _ _ el
    have eD16 := u1 _ _ eD
    have rdy16 := rdy.same u1
    have R16 := R15.same u1
    have pv16 := pv15.same u1
    revert et el16 eD16 rdy16 R16 pv16
    generalize upd H16 t (.tup [V.str (wordR rr), V.non]) = H17
    intro et el16 eD16 rdy16 R16 pv16
    obtain ⟨d, dp, d1, d2, d3, d4⟩ := repr_facts rdy16.2.1 rdy16.1
    walk_at "rd"
    refine ⟨t, _, 0, _, rfl, rfl, .of et, rfl, ?_⟩
    refine ⟨_, rfl, rfl, _, rfl, ?_⟩
    refine ifF (by rw [hw, decide_eq_true rfl]; rfl) ?_
    walk_at "rd"
    refine ⟨l, d, rfl, dp _ _ el16, d1, d2, d3, d4, ?_⟩
    walk_at "rd"
    refine ⟨D, d, rfl, dp _ _ eD16, d1, d2, d3, d4, ?_⟩
    walk_at "rd"
    refine ifF (by rw [decide_eq_true rfl]; rfl) ?_
    walk_at "rd"
    refine ifT (by rw [← hw, decide_eq_false (word_some nb)]; rfl) ?_
    walk_at "rd"
    refine ⟨by show 2 ≤ sizeLine; decide, fun b1 m1 => ?_⟩
    have u2 := same_upd (o := .tup [V.str "number", V.int 0]) m1
    walk_at "rd"
    refine ⟨by show 2 ≤ sizeLine; decide, fun b2 m2 => ?_⟩
    have u3 := same_upd (o := .tup [V.str "number", V.int 0]) m2
    walk_at "rd"
    refine ⟨by show 2 ≤ sizeLine; decide, fun b3 m3 => ?_⟩
    have u4 := same_upd (o := .lst [V.ref b1, V.ref b2]) m3
    have F0 : FieldsAt (upd (upd (upd H17 b1 (.tup [V.str "number", V.int 0])) b2 (.tup [V.str "number", V.int 0])) b3 (.lst [V.ref b1, V.ref b2])) b3 [Th.num 0, Th.num 0] := fields2 upd_same (u4 _ _ (u3 _ _ upd_same)) (u4 _ _ upd_same)
    have U := u2.trans (u3.trans u4)
    revert F0 U
    generalize upd (upd (upd H17 b1 (.tup [V.str "number", V.int 0])) b2 (.tup [V.str "number", V.int 0])) b3 (.lst [V.ref b1, V.ref b2]) = H18
    intro F0 U
    clear u2 u3 u4 m1 m2 m3
    walk_at "rd"
    refine ⟨fun σ' H' => ∃ lt : Addr, σ' = ([some (.ref a), some (.ref p), some (.int (c : Int)), some (.int (pick : Int)), some v, some u, some (.int (m : Int)), some (.int (at0 : Int)), some (.ref D), none, some (.ref q), some (.str due), some (.ref l), some (.ref t), some (.ref lt)] : L2.St) ∧ Same H17 H' ∧ FieldsAt H' lt (toldDue dv), ?_, ?_⟩
    · walk_at "rd"
      refine ⟨dv, .int 3, (pv16.same U).dp, .int 3, pv16.shaped, by simp [SeqAt.shaped, PyData.canLay0, PyData.depth], ?_⟩
      walk_at "rd"
      by_cases c3 : PyData.eqv dv (.int 3) = true
      · refine ifT c3 ?_
        walk_at "rd"
        refine ⟨by show 2 ≤ sizeLine; decide, fun f1 m1 => ?_⟩
        have u2 := same_upd (o := .tup [V.str "number", V.int 5]) m1
        walk_at "rd"
        refine ⟨by show 2 ≤ sizeLine; decide, fun f2 m2 => ?_⟩
        have u3 := same_upd (o := .tup [V.str "box", V.int 0]) m2
        walk_at "rd"
        refine ⟨by show 2 ≤ sizeLine; decide, fun f3 m3 => ?_⟩
        have u4 := same_upd (o := .lst [V.ref f1, V.ref f2]) m3
        have F1 : FieldsAt (upd (upd (upd H18 f1 (.tup [V.str "number", V.int 5])) f2 (.tup [V.str "box", V.int 0])) f3 (.lst [V.ref f1, V.ref f2])) f3 [Th.num 5, Th.box 0] := fields2 upd_same (u4 _ _ (u3 _ _ upd_same)) (u4 _ _ upd_same)
        exact ⟨f3, rfl, U.trans (u2.trans (u3.trans u4)), by unfold toldDue; rw [if_pos c3]; exact F1⟩
      · refine ifF (by simpa using c3) ?_
        exact ⟨b3, rfl, U, by unfold toldDue; rw [if_neg c3]; exact F0⟩
    clear F0 U
    rintro σ' H19 ⟨lt, rfl, U, F0⟩
    walk_at "rd"
    refine ifF (by rw [← hw, decide_eq_false (word_some nb)]) ?_
    walk_at "rd"
    refine ⟨by show 12 ≤ sizeLine; decide, fun e1 ne1 => ?_⟩
    have u5 := U.trans (same_upd (o := .lst [V.int 8, V.int 0, V.int 0, V.int 8, V.int 10, V.int 1, V.int 0, V.int 0, V.int 0, V.int 0, V.int 0, V.int 0]) ne1)
    walk_at "rd"
    refine ⟨p, e1, r', bx0, rfl, R16.same u5, ok0, by rw [upd_same, enc0]; rfl, rfl, fun H' => h _⟩
  · intro c0 hw lu m5 ths r2 H16 lt F vt R16 bt t nt
    have kp : Keep H15 (upd H16 t (.tup [V.str "", V.int 6])) := by
      obtain ⟨⟨dx5, eo5⟩, _⟩ := id R15
      exact (keep_but eo5 bt).trans (Same.keep (same_upd nt))
    have et : (upd H16 t (.tup [V.str "", V.int 6])) t = some (.tup [V.str "", V.int 6]) := upd_same
    have el16 := kp _ _ el fun _ _ _ z => nomatch z
    have eD16 := kp _ _ eD fun _ _ _ z => nomatch z
    have R17 := R16.same (same_upd (o := .tup [V.str "", V.int 6]) nt)
    have FD := (fields_move F el eD).keep kp
    have dat : ∀ x ∈ us, DatAt (upd H16 t (.tup [V.str "", V.int 6])) x := fun x hx => (rdy.2.1 x hx).keep kp
    clear R16 bt F kp nt
    revert et el16 eD16 R17 FD dat
    generalize upd H16 t (.tup [V.str "", V.int 6]) = H17
    intro et el16 eD16 R17 FD dat
    obtain ⟨d, dp, d1, d2, d3, d4⟩ := repr_facts dat rdy.1
    walk_at "rd"
    refine ⟨t, _, 0, _, rfl, rfl, .of et, rfl, ?_⟩
    refine ⟨_, rfl, rfl, _, rfl, ?_⟩
    refine ifF (by rw [hw, decide_eq_true rfl]; rfl) ?_
    walk_at "rd"
    refine ⟨l, d, rfl, dp _ _ el16, d1, d2, d3, d4, ?_⟩
    walk_at "rd"
    refine ⟨D, d, rfl, dp _ _ eD16, d1, d2, d3, d4, ?_⟩
    walk_at "rd"
    refine ifF (by rw [decide_eq_true rfl]; rfl) ?_
    walk_at "rd"
    refine ifF (by rw [hw, decide_eq_true rfl]; rfl) ?_
    walk_at "rd"
    refine ifF (decide_eq_false fun z => absurd (V.int.inj z) (by omega)) ?_
    walk_at "rd"
    refine ifT (decide_eq_true (by rw [c0]; rfl)) ?_
    walk_at "rd"
    refine ⟨t, _, 1, .int 6, rfl, rfl, .of et, rfl, ?_⟩
    walk_at "rd"
    refine ⟨t, _, 1, .int 6, rfl, rfl, .of et, rfl, ?_⟩
    walk_at "rd"
    refine ⟨.int 6, .int 6, .int _, .int _, by simp [SeqAt.shaped, PyData.canLay0, PyData.depth], by simp [SeqAt.shaped, PyData.canLay0, PyData.depth], ?_⟩
    walk_at "rd"
    refine ifF (decide_eq_false fun z => absurd (V.int.inj z) (by omega)) ?_
    walk_at "rd"
    refine ⟨D, ths, (c : Int), v, u, rfl, FD, by omega, .inl ⟨by rw [c0]; rfl, fun q6 H18 S18 e6 => ?_⟩⟩
    walk_at "rd"
    refine .inr ⟨_, rfl, ?_⟩
    walk_at "rd"
    refine ⟨IntMulOk.of_left (by split <;> decide), ?_⟩
    walk_at "rd"
    have s6 : sizeT bx0 = 6 := rfl
    have hz : sizeT bx0 + 1 + ths.length ≤ 12 := by omega
    have en : (6 : Int) + (if decide (V.int (c : Int) = V.int 0) = true then 1 else 0) * (1 + (m : Int)) = ((sizeT (bx0 ++ [ths]) : Nat) : Int) := by
      rw [if_pos (decide_eq_true (by rw [c0]; rfl)), sizeT_append, s6]
      show 6 + 1 * (1 + (m : Int)) = ((6 + (1 + ths.length + 0) : Nat) : Int)
      omega
    refine ⟨p, q6, r2, bx0 ++ [ths], by show [V.ref p, V.ref q6, V.int (6 + _)] = _; rw [en], R17.same S18, made_ok ok0 vt hz, ?_, places_made, fun H' => h _⟩
    rw [e6, enc_made ok0 vt hz, s6, show 6 + (1 + ths.length) = 7 + ths.length by omega]
  · intro c1 hw x j f fs th H16 eus ev eu hj hf g R16 bt t nt
    have el5 := el
    have er5 := R15.2
    have nlr : l ≠ r' := fun z => by
      rw [z, er5, eus, enc0] at el5
      cases el5
    have nDr : D ≠ r' := fun z => by
      have e := eD
      rw [z, er5, eus, enc0] at e
      cases e
    have u1 := same_upd (o := .tup [V.str "", V.non]) nt
    have et : (upd H16 t (.tup [V.str "", V.non])) t = some (.tup [V.str "", V.non]) := upd_same
    have el16 := u1 _ _ (bt _ _ el nlr)
    have eD16 := u1 _ _ (bt _ _ eD nDr)
    have R17 := R16.same u1
    have g17 : Goes (upd H16 t (.tup [V.str "", V.non])) x th := by
      obtain ⟨t0, e0, e1, e2, e3⟩ := id g
      exact ⟨t0, e0, u1 _ _ (bt _ _ e1 fun z => by rw [z, er5] at e1; cases e1), e2, e3⟩
    clear R16 bt u1 nt el5
    revert et el16 eD16 R17 g17
    generalize upd H16 t (.tup [V.str "", V.non]) = H17
    intro et el16 eD16 R17 g17
    obtain ⟨d, dp, d1, d2, d3, d4⟩ := repr_facts (H := H17) (us := us) (fun y hy => by
      rw [eus] at hy
      rw [List.mem_singleton.mp hy]
      exact g17.dat) rdy.1
    have FD : FieldsAt H17 D ([th].map (toPl bx0)) := by
      obtain ⟨t0, e0, e1, _⟩ := id g17
      rw [eus, e0] at eD16
      exact fields1 eD16 e1
    walk_at "rd"
    refine ⟨t, _, 0, _, rfl, rfl, .of et, rfl, ?_⟩
    refine ⟨_, rfl, rfl, _, rfl, ?_⟩
    refine ifF (by rw [hw, decide_eq_true rfl]; rfl) ?_
    walk_at "rd"
    refine ⟨l, d, rfl, dp _ _ el16, d1, d2, d3, d4, ?_⟩
    walk_at "rd"
    refine ⟨D, d, rfl, dp _ _ eD16, d1, d2, d3, d4, ?_⟩
    walk_at "rd"
    refine ifF (by rw [decide_eq_true rfl]; rfl) ?_
    walk_at "rd"
    refine ifF (by rw [hw, decide_eq_true rfl]; rfl) ?_
    walk_at "rd"
    refine ifF (decide_eq_false fun z => absurd (V.int.inj z) (by omega)) ?_
    walk_at "rd"
    refine ifF (decide_eq_false fun z => absurd (V.int.inj z) (by omega)) ?_
    walk_at "rd"
    refine ifT (decide_eq_true (by rw [c1]; rfl)) ?_
    walk_at "rd"
    refine ⟨t, _, 1, .non, rfl, rfl, .of et, rfl, ?_⟩
    walk_at "rd"
    have hj2 : j < 2 := (List.getElem?_eq_some_iff.mp hj).1
    have hf2 : f < fs.length := by rw [bx0_len hj]; exact hf
    obtain ⟨_, _, _, _, hbk⟩ := id g
    refine ⟨D, [th], (c : Int), v, u, rfl, FD, by show 1 ≤ 9; decide, .inr ⟨by rw [c1]; rfl, j, f, th, ev, eu, hj2, hf, rfl, fun q6 H18 S18 e6 => ?_⟩⟩
    walk_at "rd"
    refine .inr ⟨_, rfl, ?_⟩
    walk_at "rd"
    refine ⟨IntMulOk.of_left (by split <;> decide), ?_⟩
    walk_at "rd"
    have en : (6 : Int) + (if decide (V.int (c : Int) = V.int 0) = true then 1 else 0) * (1 + (m : Int)) = ((sizeT (bx0.set j (fs.set f th)) : Nat) : Int) := by
      rw [if_neg (by rw [decide_eq_false (fun z => absurd (V.int.inj z) (by omega))]; decide), (places_put hj).1, Int.zero_mul]
      rfl
    refine ⟨p, q6, r', bx0.set j (fs.set f th), by show [V.ref p, V.ref q6, V.int (6 + _)] = _; rw [en], R17.same S18, put_ok ok0 hj hf2 hbk, ?_, (places_put hj).2, fun H' => h _⟩
    rw [e6, enc_put hj hf2]
  · intro c2 hw j fs l2 H16 ev hj S16 F t nt
    have u1 := S16.trans (same_upd (o := .tup [V.str "", V.ref l2]) nt)
    have et : (upd H16 t (.tup [V.str "", V.ref l2])) t = some (.tup [V.str "", V.ref l2]) := upd_same
    have el16 := u1 _ _ el
    have eD16 := u1 _ _ eD
    have rdy16 := rdy.same u1
    have R16 := R15.same u1
    have pv16 := pv15.same u1
    have F16 := F.same (same_upd (o := .tup [V.str "", V.ref l2]) nt)
    rw [told_same pv15 ev hj] at F16
    revert et el16 eD16 rdy16 R16 pv16 F16
    generalize upd H16 t (.tup [V.str "", V.ref l2]) = H17
    intro et el16 eD16 rdy16 R16 pv16 F16
    obtain ⟨d, dp, d1, d2, d3, d4⟩ := repr_facts rdy16.2.1 rdy16.1
    walk_at "rd"
    refine ⟨t, _, 0, _, rfl, rfl, .of et, rfl, ?_⟩
    refine ⟨_, rfl, rfl, _, rfl, ?_⟩
    refine ifF (by rw [hw, decide_eq_true rfl]; rfl) ?_
    walk_at "rd"
    refine ⟨l, d, rfl, dp _ _ el16, d1, d2, d3, d4, ?_⟩
    walk_at "rd"
    refine ⟨D, d, rfl, dp _ _ eD16, d1, d2, d3, d4, ?_⟩
    walk_at "rd"
    refine ifF (by rw [decide_eq_true rfl]; rfl) ?_
    walk_at "rd"
    refine ifF (by rw [hw, decide_eq_true rfl]; rfl) ?_
    walk_at "rd"
    refine ifT (decide_eq_true (by rw [c2]; rfl)) ?_
    walk_at "rd"
    refine ⟨by show 2 ≤ sizeLine; decide, fun b1 m1 => ?_⟩
    have u2 := same_upd (o := .tup [V.str "number", V.int 0]) m1
    walk_at "rd"
    refine ⟨by show 2 ≤ sizeLine; decide, fun b2 m2 => ?_⟩
    have u3 := same_upd (o := .tup [V.str "number", V.int 0]) m2
    walk_at "rd"
    refine ⟨by show 2 ≤ sizeLine; decide, fun b3 m3 => ?_⟩
    have u4 := same_upd (o := .lst [V.ref b1, V.ref b2]) m3
    have F0 : FieldsAt (upd (upd (upd H17 b1 (.tup [V.str "number", V.int 0])) b2 (.tup [V.str "number", V.int 0])) b3 (.lst [V.ref b1, V.ref b2])) b3 [Th.num 0, Th.num 0] := fields2 upd_same (u4 _ _ (u3 _ _ upd_same)) (u4 _ _ upd_same)
    have U := u2.trans (u3.trans u4)
    revert F0 U
    generalize upd (upd (upd H17 b1 (.tup [V.str "number", V.int 0])) b2 (.tup [V.str "number", V.int 0])) b3 (.lst [V.ref b1, V.ref b2]) = H18
    intro F0 U
    clear u2 u3 u4 m1 m2 m3
    walk_at "rd"
    refine ⟨fun σ' H' => ∃ lt : Addr, σ' = ([some (.ref a), some (.ref p), some (.int (c : Int)), some (.int (pick : Int)), some v, some u, some (.int (m : Int)), some (.int (at0 : Int)), some (.ref D), none, some (.ref q), some (.str due), some (.ref l), some (.ref t), some (.ref lt)] : L2.St) ∧ Same H17 H' ∧ FieldsAt H' lt (toldDue dv), ?_, ?_⟩
    · walk_at "rd"
      refine ⟨dv, .int 3, (pv16.same U).dp, .int 3, pv16.shaped, by simp [SeqAt.shaped, PyData.canLay0, PyData.depth], ?_⟩
      walk_at "rd"
      by_cases c3 : PyData.eqv dv (.int 3) = true
      · refine ifT c3 ?_
        walk_at "rd"
        refine ⟨by show 2 ≤ sizeLine; decide, fun f1 m1 => ?_⟩
        have u2 := same_upd (o := .tup [V.str "number", V.int 5]) m1
        walk_at "rd"
        refine ⟨by show 2 ≤ sizeLine; decide, fun f2 m2 => ?_⟩
        have u3 := same_upd (o := .tup [V.str "box", V.int 0]) m2
        walk_at "rd"
        refine ⟨by show 2 ≤ sizeLine; decide, fun f3 m3 => ?_⟩
        have u4 := same_upd (o := .lst [V.ref f1, V.ref f2]) m3
        have F1 : FieldsAt (upd (upd (upd H18 f1 (.tup [V.str "number", V.int 5])) f2 (.tup [V.str "box", V.int 0])) f3 (.lst [V.ref f1, V.ref f2])) f3 [Th.num 5, Th.box 0] := fields2 upd_same (u4 _ _ (u3 _ _ upd_same)) (u4 _ _ upd_same)
        exact ⟨f3, rfl, U.trans (u2.trans (u3.trans u4)), by unfold toldDue; rw [if_pos c3]; exact F1⟩
      · refine ifF (by simpa using c3) ?_
        exact ⟨b3, rfl, U, by unfold toldDue; rw [if_neg c3]; exact F0⟩
    clear F0 U
    rintro σ' H19 ⟨lt, rfl, U, F0⟩
    walk_at "rd"
    refine ifT (by rw [hw, decide_eq_true rfl]) ?_
    walk_at "rd"
    refine ⟨t, _, 1, .ref l2, rfl, rfl, .of (U _ _ et), rfl, ?_⟩
    walk_at "rd"
    refine ⟨_, _, dp_fields (F16.same U), dp_fields F0, fields_shaped _, fields_shaped _, ?_⟩
    walk_at "rd"
    refine ifF (by rw [fields_eqv]; rfl) ?_
    walk_at "rd"
    refine ⟨by show 12 ≤ sizeLine; decide, fun e1 ne1 => ?_⟩
    have u5 := U.trans (same_upd (o := .lst [V.int 8, V.int 0, V.int 0, V.int 8, V.int 10, V.int 1, V.int 0, V.int 0, V.int 0, V.int 0, V.int 0, V.int 0]) ne1)
    walk_at "rd"
    refine ⟨p, e1, r', bx0, rfl, R16.same u5, ok0, by rw [upd_same, enc0]; rfl, rfl, fun H' => h _⟩
end
/-! ### the end -/
theorem all_mk {l : PySem.W.OpenLaw} {w : World} {K : PySem.W.Frag} {h : Heap} {mg : Str → Option Value} {fa : Addr} (X : K.In h) (G : h.Ns mainGlobals mg) (hfa : mg "law" = some (.ref fa))
    {C_SlideError : Addr}
    {C_BadSize : Addr}
    {C_BadThing : Addr}
    {C_NoBox : Addr}
    {C_NoField : Addr}
    {C_NoRoom : Addr}
    {C_Room : Addr}
    {f0 : Addr} {od0 an0 : Option Addr} {sl0 : Array (Option Value)} {oc0 kV0 dc0 pm0 cd0 ct0 : Value}
    (a0 : PySem.W.nsIn K mainGlobals "number_word" = some (some (.ref f0)))
    (l0 : K.lookup f0 = some ⟨oc0, od0, .func (PySem.W.fnOf "number_word" "number_word" (defArgs s_number_word) (defBody s_number_word) (defScope s_number_word) .none kV0 dc0 pm0 an0 cd0 ct0), sl0⟩) (c0 : PySem.W.codeIn K cd0 "number_word" = true) (k0 : PySem.W.keepIn K (.ref f0) = true)
    {f1 : Addr} {od1 an1 : Option Addr} {sl1 : Array (Option Value)} {oc1 kV1 dc1 pm1 cd1 ct1 : Value}
    (a1 : PySem.W.nsIn K mainGlobals "link_word" = some (some (.ref f1)))
    (l1 : K.lookup f1 = some ⟨oc1, od1, .func (PySem.W.fnOf "link_word" "link_word" (defArgs s_link_word) (defBody s_link_word) (defScope s_link_word) .none kV1 dc1 pm1 an1 cd1 ct1), sl1⟩) (c1 : PySem.W.codeIn K cd1 "link_word" = true) (k1 : PySem.W.keepIn K (.ref f1) = true)
    {f2 : Addr} {od2 an2 : Option Addr} {sl2 : Array (Option Value)} {oc2 kV2 dc2 pm2 cd2 ct2 : Value}
    (a2 : PySem.W.nsIn K mainGlobals "head_word" = some (some (.ref f2)))
    (l2 : K.lookup f2 = some ⟨oc2, od2, .func (PySem.W.fnOf "head_word" "head_word" (defArgs s_head_word) (defBody s_head_word) (defScope s_head_word) .none kV2 dc2 pm2 an2 cd2 ct2), sl2⟩) (c2 : PySem.W.codeIn K cd2 "head_word" = true) (k2 : PySem.W.keepIn K (.ref f2) = true)
    {f3 : Addr} {od3 an3 : Option Addr} {sl3 : Array (Option Value)} {oc3 kV3 dc3 pm3 cd3 ct3 : Value}
    (a3 : PySem.W.nsIn K mainGlobals "is_link" = some (some (.ref f3)))
    (l3 : K.lookup f3 = some ⟨oc3, od3, .func (PySem.W.fnOf "is_link" "is_link" (defArgs s_is_link) (defBody s_is_link) (defScope s_is_link) .none kV3 dc3 pm3 an3 cd3 ct3), sl3⟩) (c3 : PySem.W.codeIn K cd3 "is_link" = true) (k3 : PySem.W.keepIn K (.ref f3) = true)
    {f4 : Addr} {od4 an4 : Option Addr} {sl4 : Array (Option Value)} {oc4 kV4 dc4 pm4 cd4 ct4 : Value}
    (a4 : PySem.W.nsIn K mainGlobals "told_by" = some (some (.ref f4)))
    (l4 : K.lookup f4 = some ⟨oc4, od4, .func (PySem.W.fnOf "told_by" "told_by" (defArgs s_told_by) (defBody s_told_by) (defScope s_told_by) .none kV4 dc4 pm4 an4 cd4 ct4), sl4⟩) (c4 : PySem.W.codeIn K cd4 "told_by" = true) (k4 : PySem.W.keepIn K (.ref f4) = true)
    {f5 : Addr} {od5 an5 : Option Addr} {sl5 : Array (Option Value)} {oc5 kV5 dc5 pm5 cd5 ct5 : Value}
    (a5 : PySem.W.nsIn K mainGlobals "fields_of" = some (some (.ref f5)))
    (l5 : K.lookup f5 = some ⟨oc5, od5, .func (PySem.W.fnOf "fields_of" "fields_of" (defArgs s_fields_of) (defBody s_fields_of) (defScope s_fields_of) .none kV5 dc5 pm5 an5 cd5 ct5), sl5⟩) (c5 : PySem.W.codeIn K cd5 "fields_of" = true) (k5 : PySem.W.keepIn K (.ref f5) = true)
    {f6 : Addr} {od6 an6 : Option Addr} {sl6 : Array (Option Value)} {oc6 kV6 dc6 pm6 cd6 ct6 : Value}
    (a6 : PySem.W.nsIn K mainGlobals "heads" = some (some (.ref f6)))
    (l6 : K.lookup f6 = some ⟨oc6, od6, .func (PySem.W.fnOf "heads" "heads" (defArgs s_heads) (defBody s_heads) (defScope s_heads) .none kV6 dc6 pm6 an6 cd6 ct6), sl6⟩) (c6 : PySem.W.codeIn K cd6 "heads" = true) (k6 : PySem.W.keepIn K (.ref f6) = true)
    {f7 : Addr} {od7 an7 : Option Addr} {sl7 : Array (Option Value)} {oc7 kV7 dc7 pm7 cd7 ct7 : Value}
    (a7 : PySem.W.nsIn K mainGlobals "is_whole" = some (some (.ref f7)))
    (l7 : K.lookup f7 = some ⟨oc7, od7, .func (PySem.W.fnOf "is_whole" "is_whole" (defArgs s_is_whole) (defBody s_is_whole) (defScope s_is_whole) .none kV7 dc7 pm7 an7 cd7 ct7), sl7⟩) (c7 : PySem.W.codeIn K cd7 "is_whole" = true) (k7 : PySem.W.keepIn K (.ref f7) = true)
    {f8 : Addr} {od8 an8 : Option Addr} {sl8 : Array (Option Value)} {oc8 kV8 dc8 pm8 cd8 ct8 : Value}
    (a8 : PySem.W.nsIn K mainGlobals "need_thing" = some (some (.ref f8)))
    (l8 : K.lookup f8 = some ⟨oc8, od8, .func (PySem.W.fnOf "need_thing" "need_thing" (defArgs s_need_thing) (defBody s_need_thing) (defScope s_need_thing) .none kV8 dc8 pm8 an8 cd8 ct8), sl8⟩) (c8 : PySem.W.codeIn K cd8 "need_thing" = true) (k8 : PySem.W.keepIn K (.ref f8) = true)
    {f9 : Addr} {od9 an9 : Option Addr} {sl9 : Array (Option Value)} {oc9 kV9 dc9 pm9 cd9 ct9 : Value}
    (a9 : PySem.W.nsIn K mainGlobals "thing_of" = some (some (.ref f9)))
    (l9 : K.lookup f9 = some ⟨oc9, od9, .func (PySem.W.fnOf "thing_of" "thing_of" (defArgs s_thing_of) (defBody s_thing_of) (defScope s_thing_of) .none kV9 dc9 pm9 an9 cd9 ct9), sl9⟩) (c9 : PySem.W.codeIn K cd9 "thing_of" = true) (k9 : PySem.W.keepIn K (.ref f9) = true)
    {f10 : Addr} {od10 an10 : Option Addr} {sl10 : Array (Option Value)} {oc10 kV10 dc10 pm10 cd10 ct10 : Value}
    (a10 : PySem.W.findIn K (.ref C_Room) "__init__" = some (some (.ref f10))) (i10 : PySem.W.isFn K (.ref f10) = true)
    (l10 : K.lookup f10 = some ⟨oc10, od10, .func (PySem.W.fnOf "__init__" "Room.__init__" (defArgs s_Rinit) (defBody s_Rinit) (defScope s_Rinit) .none kV10 dc10 pm10 an10 cd10 ct10), sl10⟩) (c10 : PySem.W.codeIn K cd10 "Room.__init__" = true) (k10 : PySem.W.keepIn K (.ref f10) = true)
    {f11 : Addr} {od11 an11 : Option Addr} {sl11 : Array (Option Value)} {oc11 kV11 dc11 pm11 cd11 ct11 : Value}
    (a11 : PySem.W.findIn K (.ref C_Room) "need_box" = some (some (.ref f11))) (i11 : PySem.W.isFn K (.ref f11) = true)
    (l11 : K.lookup f11 = some ⟨oc11, od11, .func (PySem.W.fnOf "need_box" "Room.need_box" (defArgs s_Rneed_box) (defBody s_Rneed_box) (defScope s_Rneed_box) .none kV11 dc11 pm11 an11 cd11 ct11), sl11⟩) (c11 : PySem.W.codeIn K cd11 "Room.need_box" = true) (k11 : PySem.W.keepIn K (.ref f11) = true)
    {f12 : Addr} {od12 an12 : Option Addr} {sl12 : Array (Option Value)} {oc12 kV12 dc12 pm12 cd12 ct12 : Value}
    (a12 : PySem.W.findIn K (.ref C_Room) "word_of" = some (some (.ref f12))) (i12 : PySem.W.isFn K (.ref f12) = true)
    (l12 : K.lookup f12 = some ⟨oc12, od12, .func (PySem.W.fnOf "word_of" "Room.word_of" (defArgs s_Rword_of) (defBody s_Rword_of) (defScope s_Rword_of) .none kV12 dc12 pm12 an12 cd12 ct12), sl12⟩) (c12 : PySem.W.codeIn K cd12 "Room.word_of" = true) (k12 : PySem.W.keepIn K (.ref f12) = true)
    {f13 : Addr} {od13 an13 : Option Addr} {sl13 : Array (Option Value)} {oc13 kV13 dc13 pm13 cd13 ct13 : Value}
    (a13 : PySem.W.findIn K (.ref C_Room) "made" = some (some (.ref f13))) (i13 : PySem.W.isFn K (.ref f13) = true)
    (l13 : K.lookup f13 = some ⟨oc13, od13, .func (PySem.W.fnOf "made" "Room.made" (defArgs s_Rmade) (defBody s_Rmade) (defScope s_Rmade) .none kV13 dc13 pm13 an13 cd13 ct13), sl13⟩) (c13 : PySem.W.codeIn K cd13 "Room.made" = true) (k13 : PySem.W.keepIn K (.ref f13) = true)
    {f14 : Addr} {od14 an14 : Option Addr} {sl14 : Array (Option Value)} {oc14 kV14 dc14 pm14 cd14 ct14 : Value}
    (a14 : PySem.W.findIn K (.ref C_Room) "put" = some (some (.ref f14))) (i14 : PySem.W.isFn K (.ref f14) = true)
    (l14 : K.lookup f14 = some ⟨oc14, od14, .func (PySem.W.fnOf "put" "Room.put" (defArgs s_Rput) (defBody s_Rput) (defScope s_Rput) .none kV14 dc14 pm14 an14 cd14 ct14), sl14⟩) (c14 : PySem.W.codeIn K cd14 "Room.put" = true) (k14 : PySem.W.keepIn K (.ref f14) = true)
    {f15 : Addr} {od15 an15 : Option Addr} {sl15 : Array (Option Value)} {oc15 kV15 dc15 pm15 cd15 ct15 : Value}
    (a15 : PySem.W.findIn K (.ref C_Room) "told" = some (some (.ref f15))) (i15 : PySem.W.isFn K (.ref f15) = true)
    (l15 : K.lookup f15 = some ⟨oc15, od15, .func (PySem.W.fnOf "told" "Room.told" (defArgs s_Rtold) (defBody s_Rtold) (defScope s_Rtold) .none kV15 dc15 pm15 an15 cd15 ct15), sl15⟩) (c15 : PySem.W.codeIn K cd15 "Room.told" = true) (k15 : PySem.W.keepIn K (.ref f15) = true)
    {f16 : Addr} {od16 an16 : Option Addr} {sl16 : Array (Option Value)} {oc16 kV16 dc16 pm16 cd16 ct16 : Value}
    (a16 : PySem.W.findIn K (.ref C_Room) "places" = some (some (.ref f16))) (i16 : PySem.W.isFn K (.ref f16) = true)
    (l16 : K.lookup f16 = some ⟨oc16, od16, .func (PySem.W.fnOf "places" "Room.places" (defArgs s_Rplaces) (defBody s_Rplaces) (defScope s_Rplaces) .none kV16 dc16 pm16 an16 cd16 ct16), sl16⟩) (c16 : PySem.W.codeIn K cd16 "Room.places" = true) (k16 : PySem.W.keepIn K (.ref f16) = true)
    {f17 : Addr} {od17 an17 : Option Addr} {sl17 : Array (Option Value)} {oc17 kV17 dc17 pm17 cd17 ct17 : Value}
    (a17 : PySem.W.findIn K (.ref C_Room) "used" = some (some (.ref f17))) (i17 : PySem.W.isFn K (.ref f17) = true)
    (l17 : K.lookup f17 = some ⟨oc17, od17, .func (PySem.W.fnOf "used" "Room.used" (defArgs s_Rused) (defBody s_Rused) (defScope s_Rused) .none kV17 dc17 pm17 an17 cd17 ct17), sl17⟩) (c17 : PySem.W.codeIn K cd17 "Room.used" = true) (k17 : PySem.W.keepIn K (.ref f17) = true)
    {f18 : Addr} {od18 an18 : Option Addr} {sl18 : Array (Option Value)} {oc18 kV18 dc18 pm18 cd18 ct18 : Value}
    (a18 : PySem.W.findIn K (.ref C_Room) "cells" = some (some (.ref f18))) (i18 : PySem.W.isFn K (.ref f18) = true)
    (l18 : K.lookup f18 = some ⟨oc18, od18, .func (PySem.W.fnOf "cells" "Room.cells" (defArgs s_Rcells) (defBody s_Rcells) (defScope s_Rcells) .none kV18 dc18 pm18 an18 cd18 ct18), sl18⟩) (c18 : PySem.W.codeIn K cd18 "Room.cells" = true) (k18 : PySem.W.keepIn K (.ref f18) = true)
    {f19 : Addr} {od19 an19 : Option Addr} {sl19 : Array (Option Value)} {oc19 kV19 dc19 pm19 cd19 ct19 : Value}
    (a19 : PySem.W.nsIn K mainGlobals "_law_at" = some (some (.ref f19)))
    (l19 : K.lookup f19 = some ⟨oc19, od19, .func (PySem.W.fnOf "_law_at" "_law_at" (defArgs s_l_at) (defBody s_l_at) (defScope s_l_at) .none kV19 dc19 pm19 an19 cd19 ct19), sl19⟩) (c19 : PySem.W.codeIn K cd19 "_law_at" = true) (k19 : PySem.W.keepIn K (.ref f19) = true)
    {f20 : Addr} {od20 an20 : Option Addr} {sl20 : Array (Option Value)} {oc20 kV20 dc20 pm20 cd20 ct20 : Value}
    (a20 : PySem.W.nsIn K mainGlobals "_law_is_int" = some (some (.ref f20)))
    (l20 : K.lookup f20 = some ⟨oc20, od20, .func (PySem.W.fnOf "_law_is_int" "_law_is_int" (defArgs s_l_is_int) (defBody s_l_is_int) (defScope s_l_is_int) .none kV20 dc20 pm20 an20 cd20 ct20), sl20⟩) (c20 : PySem.W.codeIn K cd20 "_law_is_int" = true) (k20 : PySem.W.keepIn K (.ref f20) = true)
    {f21 : Addr} {od21 an21 : Option Addr} {sl21 : Array (Option Value)} {oc21 kV21 dc21 pm21 cd21 ct21 : Value}
    (a21 : PySem.W.nsIn K mainGlobals "_law_words_are" = some (some (.ref f21)))
    (l21 : K.lookup f21 = some ⟨oc21, od21, .func (PySem.W.fnOf "_law_words_are" "_law_words_are" (defArgs s_l_words_are) (defBody s_l_words_are) (defScope s_l_words_are) .none kV21 dc21 pm21 an21 cd21 ct21), sl21⟩) (c21 : PySem.W.codeIn K cd21 "_law_words_are" = true) (k21 : PySem.W.keepIn K (.ref f21) = true)
    {f22 : Addr} {od22 an22 : Option Addr} {sl22 : Array (Option Value)} {oc22 kV22 dc22 pm22 cd22 ct22 : Value}
    (a22 : PySem.W.nsIn K mainGlobals "_law_class" = some (some (.ref f22)))
    (l22 : K.lookup f22 = some ⟨oc22, od22, .func (PySem.W.fnOf "_law_class" "_law_class" (defArgs s_l_class) (defBody s_l_class) (defScope s_l_class) .none kV22 dc22 pm22 an22 cd22 ct22), sl22⟩) (c22 : PySem.W.codeIn K cd22 "_law_class" = true) (k22 : PySem.W.keepIn K (.ref f22) = true)
    {f23 : Addr} {od23 an23 : Option Addr} {sl23 : Array (Option Value)} {oc23 kV23 dc23 pm23 cd23 ct23 : Value}
    (a23 : PySem.W.nsIn K mainGlobals "_law_number" = some (some (.ref f23)))
    (l23 : K.lookup f23 = some ⟨oc23, od23, .func (PySem.W.fnOf "_law_number" "_law_number" (defArgs s_l_number) (defBody s_l_number) (defScope s_l_number) .none kV23 dc23 pm23 an23 cd23 ct23), sl23⟩) (c23 : PySem.W.codeIn K cd23 "_law_number" = true) (k23 : PySem.W.keepIn K (.ref f23) = true)
    {f24 : Addr} {od24 an24 : Option Addr} {sl24 : Array (Option Value)} {oc24 kV24 dc24 pm24 cd24 ct24 : Value}
    (a24 : PySem.W.nsIn K mainGlobals "_law_sized" = some (some (.ref f24)))
    (l24 : K.lookup f24 = some ⟨oc24, od24, .func (PySem.W.fnOf "_law_sized" "_law_sized" (defArgs s_l_sized) (defBody s_l_sized) (defScope s_l_sized) .none kV24 dc24 pm24 an24 cd24 ct24), sl24⟩) (c24 : PySem.W.codeIn K cd24 "_law_sized" = true) (k24 : PySem.W.keepIn K (.ref f24) = true)
    {f25 : Addr} {od25 an25 : Option Addr} {sl25 : Array (Option Value)} {oc25 kV25 dc25 pm25 cd25 ct25 : Value}
    (a25 : PySem.W.nsIn K mainGlobals "_law_new" = some (some (.ref f25)))
    (l25 : K.lookup f25 = some ⟨oc25, od25, .func (PySem.W.fnOf "_law_new" "_law_new" (defArgs s_l_new) (defBody s_l_new) (defScope s_l_new) .none kV25 dc25 pm25 an25 cd25 ct25), sl25⟩) (c25 : PySem.W.codeIn K cd25 "_law_new" = true) (k25 : PySem.W.keepIn K (.ref f25) = true)
    {f26 : Addr} {od26 an26 : Option Addr} {sl26 : Array (Option Value)} {oc26 kV26 dc26 pm26 cd26 ct26 : Value}
    (a26 : PySem.W.nsIn K mainGlobals "_law_things" = some (some (.ref f26)))
    (l26 : K.lookup f26 = some ⟨oc26, od26, .func (PySem.W.fnOf "_law_things" "_law_things" (defArgs s_l_things) (defBody s_l_things) (defScope s_l_things) .none kV26 dc26 pm26 an26 cd26 ct26), sl26⟩) (c26 : PySem.W.codeIn K cd26 "_law_things" = true) (k26 : PySem.W.keepIn K (.ref f26) = true)
    {f27 : Addr} {od27 an27 : Option Addr} {sl27 : Array (Option Value)} {oc27 kV27 dc27 pm27 cd27 ct27 : Value}
    (a27 : PySem.W.nsIn K mainGlobals "_law_word" = some (some (.ref f27)))
    (l27 : K.lookup f27 = some ⟨oc27, od27, .func (PySem.W.fnOf "_law_word" "_law_word" (defArgs s_l_word) (defBody s_l_word) (defScope s_l_word) .none kV27 dc27 pm27 an27 cd27 ct27), sl27⟩) (c27 : PySem.W.codeIn K cd27 "_law_word" = true) (k27 : PySem.W.keepIn K (.ref f27) = true)
    {f28 : Addr} {od28 an28 : Option Addr} {sl28 : Array (Option Value)} {oc28 kV28 dc28 pm28 cd28 ct28 : Value}
    (a28 : PySem.W.nsIn K mainGlobals "_law_made_due" = some (some (.ref f28)))
    (l28 : K.lookup f28 = some ⟨oc28, od28, .func (PySem.W.fnOf "_law_made_due" "_law_made_due" (defArgs s_l_made_due) (defBody s_l_made_due) (defScope s_l_made_due) .none kV28 dc28 pm28 an28 cd28 ct28), sl28⟩) (c28 : PySem.W.codeIn K cd28 "_law_made_due" = true) (k28 : PySem.W.keepIn K (.ref f28) = true)
    {f29 : Addr} {od29 an29 : Option Addr} {sl29 : Array (Option Value)} {oc29 kV29 dc29 pm29 cd29 ct29 : Value}
    (a29 : PySem.W.nsIn K mainGlobals "_law_put_due" = some (some (.ref f29)))
    (l29 : K.lookup f29 = some ⟨oc29, od29, .func (PySem.W.fnOf "_law_put_due" "_law_put_due" (defArgs s_l_put_due) (defBody s_l_put_due) (defScope s_l_put_due) .none kV29 dc29 pm29 an29 cd29 ct29), sl29⟩) (c29 : PySem.W.codeIn K cd29 "_law_put_due" = true) (k29 : PySem.W.keepIn K (.ref f29) = true)
    {f30 : Addr} {od30 an30 : Option Addr} {sl30 : Array (Option Value)} {oc30 kV30 dc30 pm30 cd30 ct30 : Value}
    (a30 : PySem.W.nsIn K mainGlobals "_law_called" = some (some (.ref f30)))
    (l30 : K.lookup f30 = some ⟨oc30, od30, .func (PySem.W.fnOf "_law_called" "_law_called" (defArgs s_l_called) (defBody s_l_called) (defScope s_l_called) .none kV30 dc30 pm30 an30 cd30 ct30), sl30⟩) (c30 : PySem.W.codeIn K cd30 "_law_called" = true) (k30 : PySem.W.keepIn K (.ref f30) = true)
    {f31 : Addr} {od31 an31 : Option Addr} {sl31 : Array (Option Value)} {oc31 kV31 dc31 pm31 cd31 ct31 : Value}
    (a31 : PySem.W.nsIn K mainGlobals "_law_behind" = some (some (.ref f31)))
    (l31 : K.lookup f31 = some ⟨oc31, od31, .func (PySem.W.fnOf "_law_behind" "_law_behind" (defArgs s_l_behind) (defBody s_l_behind) (defScope s_l_behind) .none kV31 dc31 pm31 an31 cd31 ct31), sl31⟩) (c31 : PySem.W.codeIn K cd31 "_law_behind" = true) (k31 : PySem.W.keepIn K (.ref f31) = true)
    {f32 : Addr} {od32 an32 : Option Addr} {sl32 : Array (Option Value)} {oc32 kV32 dc32 pm32 cd32 ct32 : Value}
    (a32 : PySem.W.nsIn K mainGlobals "_law_sizes_right" = some (some (.ref f32)))
    (l32 : K.lookup f32 = some ⟨oc32, od32, .func (PySem.W.fnOf "_law_sizes_right" "_law_sizes_right" (defArgs s_l_sizes_right) (defBody s_l_sizes_right) (defScope s_l_sizes_right) .none kV32 dc32 pm32 an32 cd32 ct32), sl32⟩) (c32 : PySem.W.codeIn K cd32 "_law_sizes_right" = true) (k32 : PySem.W.keepIn K (.ref f32) = true)
    {f33 : Addr} {od33 an33 : Option Addr} {sl33 : Array (Option Value)} {oc33 kV33 dc33 pm33 cd33 ct33 : Value}
    (a33 : PySem.W.nsIn K mainGlobals "_law_sound" = some (some (.ref f33)))
    (l33 : K.lookup f33 = some ⟨oc33, od33, .func (PySem.W.fnOf "_law_sound" "_law_sound" (defArgs s_l_sound) (defBody s_l_sound) (defScope s_l_sound) .none kV33 dc33 pm33 an33 cd33 ct33), sl33⟩) (c33 : PySem.W.codeIn K cd33 "_law_sound" = true) (k33 : PySem.W.keepIn K (.ref f33) = true)
    {f34 : Addr} {od34 an34 : Option Addr} {sl34 : Array (Option Value)} {oc34 kV34 dc34 pm34 cd34 ct34 : Value}
    (a34 : PySem.W.nsIn K mainGlobals "_law_drawn_place" = some (some (.ref f34)))
    (l34 : K.lookup f34 = some ⟨oc34, od34, .func (PySem.W.fnOf "_law_drawn_place" "_law_drawn_place" (defArgs s_l_drawn_place) (defBody s_l_drawn_place) (defScope s_l_drawn_place) .none kV34 dc34 pm34 an34 cd34 ct34), sl34⟩) (c34 : PySem.W.codeIn K cd34 "_law_drawn_place" = true) (k34 : PySem.W.keepIn K (.ref f34) = true)
    {f35 : Addr} {od35 an35 : Option Addr} {sl35 : Array (Option Value)} {oc35 kV35 dc35 pm35 cd35 ct35 : Value}
    (a35 : PySem.W.nsIn K mainGlobals "_law_drawn_field" = some (some (.ref f35)))
    (l35 : K.lookup f35 = some ⟨oc35, od35, .func (PySem.W.fnOf "_law_drawn_field" "_law_drawn_field" (defArgs s_l_drawn_field) (defBody s_l_drawn_field) (defScope s_l_drawn_field) .none kV35 dc35 pm35 an35 cd35 ct35), sl35⟩) (c35 : PySem.W.codeIn K cd35 "_law_drawn_field" = true) (k35 : PySem.W.keepIn K (.ref f35) = true)
    {f36 : Addr} {od36 an36 : Option Addr} {sl36 : Array (Option Value)} {oc36 kV36 dc36 pm36 cd36 ct36 : Value}
    (a36 : PySem.W.nsIn K mainGlobals "law" = some (some (.ref f36)))
    (l36 : K.lookup f36 = some ⟨oc36, od36, .func (PySem.W.fnOf "law" "law" (defArgs s_law) (defBody s_law) (defScope s_law) .none kV36 dc36 pm36 an36 cd36 ct36), sl36⟩) (c36 : PySem.W.codeIn K cd36 "law" = true) (k36 : PySem.W.keepIn K (.ref f36) = true)
    (aC_SlideError : PySem.W.nsIn K mainGlobals "SlideError" = some (some (.ref C_SlideError)))
    (aC_BadSize : PySem.W.nsIn K mainGlobals "BadSize" = some (some (.ref C_BadSize)))
    (aC_BadThing : PySem.W.nsIn K mainGlobals "BadThing" = some (some (.ref C_BadThing)))
    (aC_NoBox : PySem.W.nsIn K mainGlobals "NoBox" = some (some (.ref C_NoBox)))
    (aC_NoField : PySem.W.nsIn K mainGlobals "NoField" = some (some (.ref C_NoField)))
    (aC_NoRoom : PySem.W.nsIn K mainGlobals "NoRoom" = some (some (.ref C_NoRoom)))
    (aC_Room : PySem.W.nsIn K mainGlobals "Room" = some (some (.ref C_Room)))
    (z_ValueError : PySem.W.nsIn K mainGlobals "ValueError" = some none)
    (z_abs : PySem.W.nsIn K mainGlobals "abs" = some none)
    (z_bool : PySem.W.nsIn K mainGlobals "bool" = some none)
    (z_int : PySem.W.nsIn K mainGlobals "int" = some none)
    (z_isinstance : PySem.W.nsIn K mainGlobals "isinstance" = some none)
    (z_len : PySem.W.nsIn K mainGlobals "len" = some none)
    (z_list : PySem.W.nsIn K mainGlobals "list" = some none)
    (z_max : PySem.W.nsIn K mainGlobals "max" = some none)
    (z_range : PySem.W.nsIn K mainGlobals "range" = some none)
    (z_repr : PySem.W.nsIn K mainGlobals "repr" = some none)
    (z_str : PySem.W.nsIn K mainGlobals "str" = some none)
    (z_tuple : PySem.W.nsIn K mainGlobals "tuple" = some none)
    {t_MOST_CELLS : Tok} (co_MOST_CELLS : PySem.W.nsIn K mainGlobals "MOST_CELLS" = some (some (.int 400 t_MOST_CELLS)))
    {t_MOST_DOORS : Tok} (co_MOST_DOORS : PySem.W.nsIn K mainGlobals "MOST_DOORS" = some (some (.int 20 t_MOST_DOORS)))
    (pgR : PySem.W.plainGet K C_Room Str.empty = true) (hdR : PySem.W.hasDictIn K C_Room = true) (poR : PySem.W.plainOver K C_Room = true) (saR : PySem.W.findIn K (.ref C_Room) "__setattr__" = some (some (.builtin "object.__setattr__"))) (mkR : PySem.W.makesIn K C_Room = true) (kcR : PySem.W.keepIn K (.ref C_Room) = true) (nRow : PySem.W.findIn K (.ref C_Room) "row" = some none) (nFil : PySem.W.findIn K (.ref C_Room) "filled" = some none)
    (x_SlideError : PySem.W.excIn K C_SlideError [.type "ValueError", .type "Exception", .type "BaseException", .type "object"] "ValueError.__new__" = true) (kx_SlideError : PySem.W.keepIn K (.ref C_SlideError) = true) (sb_SlideError : PySem.W.subIn K (.ref C_SlideError) (.type "BaseException") = some true) (ty_SlideError : PySem.W.typeIn K (.ref C_SlideError) = some (.type "type")) (is_SlideError : PySem.W.isClsIn K C_SlideError = true) (ss_SlideError : PySem.W.subIn K (.ref C_SlideError) (.ref C_SlideError) = some true)
    (x_BadSize : PySem.W.excIn K C_BadSize [.type "ValueError", .type "Exception", .type "BaseException", .type "object"] "ValueError.__new__" = true) (kx_BadSize : PySem.W.keepIn K (.ref C_BadSize) = true) (sb_BadSize : PySem.W.subIn K (.ref C_BadSize) (.type "BaseException") = some true) (ty_BadSize : PySem.W.typeIn K (.ref C_BadSize) = some (.type "type")) (is_BadSize : PySem.W.isClsIn K C_BadSize = true) (ss_BadSize : PySem.W.subIn K (.ref C_BadSize) (.ref C_BadSize) = some true)
    (x_BadThing : PySem.W.excIn K C_BadThing [.type "ValueError", .type "Exception", .type "BaseException", .type "object"] "ValueError.__new__" = true) (kx_BadThing : PySem.W.keepIn K (.ref C_BadThing) = true) (sb_BadThing : PySem.W.subIn K (.ref C_BadThing) (.type "BaseException") = some true) (ty_BadThing : PySem.W.typeIn K (.ref C_BadThing) = some (.type "type")) (is_BadThing : PySem.W.isClsIn K C_BadThing = true) (ss_BadThing : PySem.W.subIn K (.ref C_BadThing) (.ref C_BadThing) = some true)
    (x_NoBox : PySem.W.excIn K C_NoBox [.type "ValueError", .type "Exception", .type "BaseException", .type "object"] "ValueError.__new__" = true) (kx_NoBox : PySem.W.keepIn K (.ref C_NoBox) = true) (sb_NoBox : PySem.W.subIn K (.ref C_NoBox) (.type "BaseException") = some true) (ty_NoBox : PySem.W.typeIn K (.ref C_NoBox) = some (.type "type")) (is_NoBox : PySem.W.isClsIn K C_NoBox = true) (ss_NoBox : PySem.W.subIn K (.ref C_NoBox) (.ref C_NoBox) = some true)
    (x_NoField : PySem.W.excIn K C_NoField [.type "ValueError", .type "Exception", .type "BaseException", .type "object"] "ValueError.__new__" = true) (kx_NoField : PySem.W.keepIn K (.ref C_NoField) = true) (sb_NoField : PySem.W.subIn K (.ref C_NoField) (.type "BaseException") = some true) (ty_NoField : PySem.W.typeIn K (.ref C_NoField) = some (.type "type")) (is_NoField : PySem.W.isClsIn K C_NoField = true) (ss_NoField : PySem.W.subIn K (.ref C_NoField) (.ref C_NoField) = some true)
    (x_NoRoom : PySem.W.excIn K C_NoRoom [.type "ValueError", .type "Exception", .type "BaseException", .type "object"] "ValueError.__new__" = true) (kx_NoRoom : PySem.W.keepIn K (.ref C_NoRoom) = true) (sb_NoRoom : PySem.W.subIn K (.ref C_NoRoom) (.type "BaseException") = some true) (ty_NoRoom : PySem.W.typeIn K (.ref C_NoRoom) = some (.type "type")) (is_NoRoom : PySem.W.isClsIn K C_NoRoom = true) (ss_NoRoom : PySem.W.subIn K (.ref C_NoRoom) (.ref C_NoRoom) = some true)
    (sv_BadSize : PySem.W.subIn K (.ref C_BadSize) (.type "ValueError") = some true) (sl_BadSize : PySem.W.subIn K (.ref C_BadSize) (.ref C_SlideError) = some true) (hd_BadSize : PySem.W.hasDictIn K C_BadSize = true) (hg_BadSize : PySem.W.findIn K (.ref C_BadSize) "__getattribute__" = some (some (.builtin "BaseException.__getattribute__"))) (hk_BadSize : PySem.W.findIn K (.ref C_BadSize) "__getattr__" = some none) (ha_BadSize : PySem.W.findIn K (.ref C_BadSize) "__class__" = some (some (.builtin "object.__class__"))) (hm_BadSize : PySem.W.mroIn K C_BadSize (.type "object") = some true)
    (sv_BadThing : PySem.W.subIn K (.ref C_BadThing) (.type "ValueError") = some true) (sl_BadThing : PySem.W.subIn K (.ref C_BadThing) (.ref C_SlideError) = some true) (hd_BadThing : PySem.W.hasDictIn K C_BadThing = true) (hg_BadThing : PySem.W.findIn K (.ref C_BadThing) "__getattribute__" = some (some (.builtin "BaseException.__getattribute__"))) (hk_BadThing : PySem.W.findIn K (.ref C_BadThing) "__getattr__" = some none) (ha_BadThing : PySem.W.findIn K (.ref C_BadThing) "__class__" = some (some (.builtin "object.__class__"))) (hm_BadThing : PySem.W.mroIn K C_BadThing (.type "object") = some true)
    (sv_NoBox : PySem.W.subIn K (.ref C_NoBox) (.type "ValueError") = some true) (sl_NoBox : PySem.W.subIn K (.ref C_NoBox) (.ref C_SlideError) = some true) (hd_NoBox : PySem.W.hasDictIn K C_NoBox = true) (hg_NoBox : PySem.W.findIn K (.ref C_NoBox) "__getattribute__" = some (some (.builtin "BaseException.__getattribute__"))) (hk_NoBox : PySem.W.findIn K (.ref C_NoBox) "__getattr__" = some none) (ha_NoBox : PySem.W.findIn K (.ref C_NoBox) "__class__" = some (some (.builtin "object.__class__"))) (hm_NoBox : PySem.W.mroIn K C_NoBox (.type "object") = some true)
    (sv_NoField : PySem.W.subIn K (.ref C_NoField) (.type "ValueError") = some true) (sl_NoField : PySem.W.subIn K (.ref C_NoField) (.ref C_SlideError) = some true) (hd_NoField : PySem.W.hasDictIn K C_NoField = true) (hg_NoField : PySem.W.findIn K (.ref C_NoField) "__getattribute__" = some (some (.builtin "BaseException.__getattribute__"))) (hk_NoField : PySem.W.findIn K (.ref C_NoField) "__getattr__" = some none) (ha_NoField : PySem.W.findIn K (.ref C_NoField) "__class__" = some (some (.builtin "object.__class__"))) (hm_NoField : PySem.W.mroIn K C_NoField (.type "object") = some true)
    (sv_NoRoom : PySem.W.subIn K (.ref C_NoRoom) (.type "ValueError") = some true) (sl_NoRoom : PySem.W.subIn K (.ref C_NoRoom) (.ref C_SlideError) = some true) (hd_NoRoom : PySem.W.hasDictIn K C_NoRoom = true) (hg_NoRoom : PySem.W.findIn K (.ref C_NoRoom) "__getattribute__" = some (some (.builtin "BaseException.__getattribute__"))) (hk_NoRoom : PySem.W.findIn K (.ref C_NoRoom) "__getattr__" = some none) (ha_NoRoom : PySem.W.findIn K (.ref C_NoRoom) "__class__" = some (some (.builtin "object.__class__"))) (hm_NoRoom : PySem.W.mroIn K C_NoRoom (.type "object") = some true)
    (sn_BadSize_BadThing : PySem.W.subIn K (.ref C_BadSize) (.ref C_BadThing) = some false)
    (sn_BadSize_NoBox : PySem.W.subIn K (.ref C_BadSize) (.ref C_NoBox) = some false)
    (sn_BadSize_NoField : PySem.W.subIn K (.ref C_BadSize) (.ref C_NoField) = some false)
    (sn_BadSize_NoRoom : PySem.W.subIn K (.ref C_BadSize) (.ref C_NoRoom) = some false)
    (sn_BadThing_BadSize : PySem.W.subIn K (.ref C_BadThing) (.ref C_BadSize) = some false)
    (sn_BadThing_NoBox : PySem.W.subIn K (.ref C_BadThing) (.ref C_NoBox) = some false)
    (sn_BadThing_NoField : PySem.W.subIn K (.ref C_BadThing) (.ref C_NoField) = some false)
    (sn_BadThing_NoRoom : PySem.W.subIn K (.ref C_BadThing) (.ref C_NoRoom) = some false)
    (sn_NoBox_BadSize : PySem.W.subIn K (.ref C_NoBox) (.ref C_BadSize) = some false)
    (sn_NoBox_BadThing : PySem.W.subIn K (.ref C_NoBox) (.ref C_BadThing) = some false)
    (sn_NoBox_NoField : PySem.W.subIn K (.ref C_NoBox) (.ref C_NoField) = some false)
    (sn_NoBox_NoRoom : PySem.W.subIn K (.ref C_NoBox) (.ref C_NoRoom) = some false)
    (sn_NoField_BadSize : PySem.W.subIn K (.ref C_NoField) (.ref C_BadSize) = some false)
    (sn_NoField_BadThing : PySem.W.subIn K (.ref C_NoField) (.ref C_BadThing) = some false)
    (sn_NoField_NoBox : PySem.W.subIn K (.ref C_NoField) (.ref C_NoBox) = some false)
    (sn_NoField_NoRoom : PySem.W.subIn K (.ref C_NoField) (.ref C_NoRoom) = some false)
    (sn_NoRoom_BadSize : PySem.W.subIn K (.ref C_NoRoom) (.ref C_BadSize) = some false)
    (sn_NoRoom_BadThing : PySem.W.subIn K (.ref C_NoRoom) (.ref C_BadThing) = some false)
    (sn_NoRoom_NoBox : PySem.W.subIn K (.ref C_NoRoom) (.ref C_NoBox) = some false)
    (sn_NoRoom_NoField : PySem.W.subIn K (.ref C_NoRoom) (.ref C_NoField) = some false)
    (hn : PySem.W.specialIn K (.builtin "object.__class__") "__get__" = some (some (.builtin "getset_descriptor.__get__"))) (ht : PySem.W.takesIn K (.builtin "object.__class__") = some true)
    : ∃ fd : FuncData, (∀ (s : Shared) (v : Value), BindsTo s fd ⟨[v], []⟩ [("_law_script", v)]) ∧ ∀ base : Heap, K.In base → base.Ns mainGlobals mg → FnG l.prog w K mg base 7 fa fd ["_law_script"] (sp_law K) := by
  have e := hfa.symm.trans (PySem.W.mg_of X G a36)
  cases e
  have F0 := fun_mk (st := s_number_word) l0 c0 k0
  have b0 := F0.binds (ps := ["n"]) fun _ _ _ _ _ _ us hl => match us, hl with | [_], _ => rfl
  have F1 := fun_mk (st := s_link_word) l1 c1 k1
  have b1 := F1.binds (ps := ["place"]) fun _ _ _ _ _ _ us hl => match us, hl with | [_], _ => rfl
  have F2 := fun_mk (st := s_head_word) l2 c2 k2
  have b2 := F2.binds (ps := ["many", "marked"]) fun _ _ _ _ _ _ us hl => match us, hl with | [_, _], _ => rfl
  have F3 := fun_mk (st := s_is_link) l3 c3 k3
  have b3 := F3.binds (ps := ["word"]) fun _ _ _ _ _ _ us hl => match us, hl with | [_], _ => rfl
  have F4 := fun_mk (st := s_told_by) l4 c4 k4
  have b4 := F4.binds (ps := ["word"]) fun _ _ _ _ _ _ us hl => match us, hl with | [_], _ => rfl
  have F5 := fun_mk (st := s_fields_of) l5 c5 k5
  have b5 := F5.binds (ps := ["head"]) fun _ _ _ _ _ _ us hl => match us, hl with | [_], _ => rfl
  have F6 := fun_mk (st := s_heads) l6 c6 k6
  have b6 := F6.binds (ps := ["row", "used"]) fun _ _ _ _ _ _ us hl => match us, hl with | [_, _], _ => rfl
  have F7 := fun_mk (st := s_is_whole) l7 c7 k7
  have b7 := F7.binds (ps := ["value"]) fun _ _ _ _ _ _ us hl => match us, hl with | [_], _ => rfl
  have F8 := fun_mk (st := s_need_thing) l8 c8 k8
  have b8 := F8.binds (ps := ["thing"]) fun _ _ _ _ _ _ us hl => match us, hl with | [_], _ => rfl
  have F9 := fun_mk (st := s_thing_of) l9 c9 k9
  have b9 := F9.binds (ps := ["word"]) fun _ _ _ _ _ _ us hl => match us, hl with | [_], _ => rfl
  have F10 := fun_mk (st := s_Rinit) l10 c10 k10
  have b10 := F10.binds (ps := ["self", "size", "doors"]) fun _ _ _ _ _ _ us hl => match us, hl with | [_, _, _], _ => rfl
  have F11 := fun_mk (st := s_Rneed_box) l11 c11 k11
  have b11 := F11.binds (ps := ["self", "place"]) fun _ _ _ _ _ _ us hl => match us, hl with | [_, _], _ => rfl
  have F12 := fun_mk (st := s_Rword_of) l12 c12 k12
  have b12 := F12.binds (ps := ["self", "thing"]) fun _ _ _ _ _ _ us hl => match us, hl with | [_, _], _ => rfl
  have F13 := fun_mk (st := s_Rmade) l13 c13 k13
  have b13 := F13.binds (ps := ["self", "things"]) fun _ _ _ _ _ _ us hl => match us, hl with | [_, _], _ => rfl
  have F14 := fun_mk (st := s_Rput) l14 c14 k14
  have b14 := F14.binds (ps := ["self", "place", "field", "thing"]) fun _ _ _ _ _ _ us hl => match us, hl with | [_, _, _, _], _ => rfl
  have F15 := fun_mk (st := s_Rtold) l15 c15 k15
  have b15 := F15.binds (ps := ["self", "place"]) fun _ _ _ _ _ _ us hl => match us, hl with | [_, _], _ => rfl
  have F16 := fun_mk (st := s_Rplaces) l16 c16 k16
  have b16 := F16.binds (ps := ["self"]) fun _ _ _ _ _ _ us hl => match us, hl with | [_], _ => rfl
  have F17 := fun_mk (st := s_Rused) l17 c17 k17
  have b17 := F17.binds (ps := ["self"]) fun _ _ _ _ _ _ us hl => match us, hl with | [_], _ => rfl
  have F18 := fun_mk (st := s_Rcells) l18 c18 k18
  have b18 := F18.binds (ps := ["self"]) fun _ _ _ _ _ _ us hl => match us, hl with | [_], _ => rfl
  have F19 := fun_mk (st := s_l_at) l19 c19 k19
  have b19 := F19.binds (ps := ["_law_script", "_law_place"]) fun _ _ _ _ _ _ us hl => match us, hl with | [_, _], _ => rfl
  have F20 := fun_mk (st := s_l_is_int) l20 c20 k20
  have b20 := F20.binds (ps := ["_law_value"]) fun _ _ _ _ _ _ us hl => match us, hl with | [_], _ => rfl
  have F21 := fun_mk (st := s_l_words_are) l21 c21 k21
  have b21 := F21.binds (ps := ["_law_found", "_law_due"]) fun _ _ _ _ _ _ us hl => match us, hl with | [_, _], _ => rfl
  have F22 := fun_mk (st := s_l_class) l22 c22 k22
  have b22 := F22.binds (ps := ["_law_error", "_law_word_here"]) fun _ _ _ _ _ _ us hl => match us, hl with | [_, _], _ => rfl
  have F23 := fun_mk (st := s_l_number) l23 c23 k23
  have b23 := F23.binds (ps := ["_law_value"]) fun _ _ _ _ _ _ us hl => match us, hl with | [_], _ => rfl
  have F24 := fun_mk (st := s_l_sized) l24 c24 k24
  have b24 := F24.binds (ps := ["_law_size", "_law_doors"]) fun _ _ _ _ _ _ us hl => match us, hl with | [_, _], _ => rfl
  have F25 := fun_mk (st := s_l_new) l25 c25 k25
  have b25 := F25.binds (ps := ["_law_size", "_law_doors"]) fun _ _ _ _ _ _ us hl => match us, hl with | [_, _], _ => rfl
  have F26 := fun_mk (st := s_l_things) l26 c26 k26
  have b26 := F26.binds (ps := []) fun _ _ _ _ _ _ us hl => match us, hl with | [], _ => rfl
  have F27 := fun_mk (st := s_l_word) l27 c27 k27
  have b27 := F27.binds (ps := ["_law_pick"]) fun _ _ _ _ _ _ us hl => match us, hl with | [_], _ => rfl
  have F28 := fun_mk (st := s_l_made_due) l28 c28 k28
  have b28 := F28.binds (ps := ["_law_many", "_law_picks"]) fun _ _ _ _ _ _ us hl => match us, hl with | [_, _], _ => rfl
  have F29 := fun_mk (st := s_l_put_due) l29 c29 k29
  have b29 := F29.binds (ps := ["_law_call", "_law_place", "_law_field", "_law_pick"]) fun _ _ _ _ _ _ us hl => match us, hl with | [_, _, _, _], _ => rfl
  have F30 := fun_mk (st := s_l_called) l30 c30 k30
  have b30 := F30.binds (ps := ["_law_room", "_law_call", "_law_things_here", "_law_place", "_law_field"]) fun _ _ _ _ _ _ us hl => match us, hl with | [_, _, _, _, _], _ => rfl
  have F31 := fun_mk (st := s_l_behind) l31 c31 k31
  have b31 := F31.binds (ps := ["_law_call", "_law_things_here", "_law_place", "_law_field"]) fun _ _ _ _ _ _ us hl => match us, hl with | [_, _, _, _], _ => rfl
  have F32 := fun_mk (st := s_l_sizes_right) l32 c32 k32
  have b32 := F32.binds (ps := ["_law_script"]) fun _ _ _ _ _ _ us hl => match us, hl with | [_], _ => rfl
  have F33 := fun_mk (st := s_l_sound) l33 c33 k33
  have b33 := F33.binds (ps := ["_law_room", "_law_cells", "_law_used"]) fun _ _ _ _ _ _ us hl => match us, hl with | [_, _, _], _ => rfl
  have F34 := fun_mk (st := s_l_drawn_place) l34 c34 k34
  have b34 := F34.binds (ps := ["_law_cell"]) fun _ _ _ _ _ _ us hl => match us, hl with | [_], _ => rfl
  have F35 := fun_mk (st := s_l_drawn_field) l35 c35 k35
  have b35 := F35.binds (ps := ["_law_cell"]) fun _ _ _ _ _ _ us hl => match us, hl with | [_], _ => rfl
  have F36 := fun_mk (st := s_law) l36 c36 k36
  have b36 := F36.binds (ps := ["_law_script"]) fun _ _ _ _ _ _ us hl => match us, hl with | [_], _ => rfl
  have T : Txt K mg ⟨f0, _, f1, _, f2, _, f3, _, f4, _, f5, _, f6, _, f7, _, f8, _, f9, _, f10, _, f11, _, f12, _, f13, _, f14, _, f15, _, f16, _, f17, _, f18, _, f19, _, f20, _, f21, _, f22, _, f23, _, f24, _, f25, _, f26, _, f27, _, f28, _, f29, _, f30, _, f31, _, f32, _, f33, _, f34, _, f35, _, fa, _, C_SlideError, C_BadSize, C_BadThing, C_NoBox, C_NoField, C_NoRoom, C_Room⟩ := ⟨F0, b0, PySem.W.mg_of X G a0, F1, b1, PySem.W.mg_of X G a1, F2, b2, PySem.W.mg_of X G a2, F3, b3, PySem.W.mg_of X G a3, F4, b4, PySem.W.mg_of X G a4, F5, b5, PySem.W.mg_of X G a5, F6, b6, PySem.W.mg_of X G a6, F7, b7, PySem.W.mg_of X G a7, F8, b8, PySem.W.mg_of X G a8, F9, b9, PySem.W.mg_of X G a9, F10, b10, F11, b11, ⟨a11, i11, k11⟩, F12, b12, ⟨a12, i12, k12⟩, F13, b13, ⟨a13, i13, k13⟩, F14, b14, ⟨a14, i14, k14⟩, F15, b15, ⟨a15, i15, k15⟩, F16, b16, ⟨a16, i16, k16⟩, F17, b17, ⟨a17, i17, k17⟩, F18, b18, ⟨a18, i18, k18⟩, F19, b19, PySem.W.mg_of X G a19, F20, b20, PySem.W.mg_of X G a20, F21, b21, PySem.W.mg_of X G a21, F22, b22, PySem.W.mg_of X G a22, F23, b23, PySem.W.mg_of X G a23, F24, b24, PySem.W.mg_of X G a24, F25, b25, PySem.W.mg_of X G a25, F26, b26, PySem.W.mg_of X G a26, F27, b27, PySem.W.mg_of X G a27, F28, b28, PySem.W.mg_of X G a28, F29, b29, PySem.W.mg_of X G a29, F30, b30, PySem.W.mg_of X G a30, F31, b31, PySem.W.mg_of X G a31, F32, b32, PySem.W.mg_of X G a32, F33, b33, PySem.W.mg_of X G a33, F34, b34, PySem.W.mg_of X G a34, F35, b35, PySem.W.mg_of X G a35, F36, b36, PySem.W.mg_of X G a36, PySem.W.mg_none_of X G z_ValueError, PySem.W.mg_none_of X G z_abs, PySem.W.mg_none_of X G z_bool, PySem.W.mg_none_of X G z_int, PySem.W.mg_none_of X G z_isinstance, PySem.W.mg_none_of X G z_len, PySem.W.mg_none_of X G z_list, PySem.W.mg_none_of X G z_max, PySem.W.mg_none_of X G z_range, PySem.W.mg_none_of X G z_repr, PySem.W.mg_none_of X G z_str, PySem.W.mg_none_of X G z_tuple, ⟨_, PySem.W.mg_of X G co_MOST_CELLS⟩, ⟨_, PySem.W.mg_of X G co_MOST_DOORS⟩, PySem.W.mg_of X G aC_Room, ⟨pgR, hdR, poR, saR⟩, nRow, nFil, ⟨mkR, a10, i10, kcR⟩, PySem.W.mg_of X G aC_SlideError, x_SlideError, kx_SlideError, sb_SlideError, ty_SlideError, exm_own sb_SlideError is_SlideError ty_SlideError ss_SlideError, PySem.W.mg_of X G aC_BadSize, x_BadSize, kx_BadSize, sb_BadSize, ty_BadSize, exm_own sb_BadSize is_BadSize ty_BadSize ss_BadSize, PySem.W.mg_of X G aC_BadThing, x_BadThing, kx_BadThing, sb_BadThing, ty_BadThing, exm_own sb_BadThing is_BadThing ty_BadThing ss_BadThing, PySem.W.mg_of X G aC_NoBox, x_NoBox, kx_NoBox, sb_NoBox, ty_NoBox, exm_own sb_NoBox is_NoBox ty_NoBox ss_NoBox, PySem.W.mg_of X G aC_NoField, x_NoField, kx_NoField, sb_NoField, ty_NoField, exm_own sb_NoField is_NoField ty_NoField ss_NoField, PySem.W.mg_of X G aC_NoRoom, x_NoRoom, kx_NoRoom, sb_NoRoom, ty_NoRoom, exm_own sb_NoRoom is_NoRoom ty_NoRoom ss_NoRoom, (fun r => match r with | .BadSize => ⟨hg_BadSize, hk_BadSize, sb_BadSize, hd_BadSize, ha_BadSize, hn, ht, hm_BadSize⟩ | .BadThing => ⟨hg_BadThing, hk_BadThing, sb_BadThing, hd_BadThing, ha_BadThing, hn, ht, hm_BadThing⟩ | .NoBox => ⟨hg_NoBox, hk_NoBox, sb_NoBox, hd_NoBox, ha_NoBox, hn, ht, hm_NoBox⟩ | .NoField => ⟨hg_NoField, hk_NoField, sb_NoField, hd_NoField, ha_NoField, hn, ht, hm_NoField⟩ | .NoRoom => ⟨hg_NoRoom, hk_NoRoom, sb_NoRoom, hd_NoRoom, ha_NoRoom, hn, ht, hm_NoRoom⟩), (fun r q => match r, q with | .BadSize, .BadSize => kit_own is_BadSize ty_BadSize ss_BadSize ss_BadSize | .BadSize, .BadThing => kit_own is_BadThing ty_BadThing ss_BadSize sn_BadSize_BadThing | .BadSize, .NoBox => kit_own is_NoBox ty_NoBox ss_BadSize sn_BadSize_NoBox | .BadSize, .NoField => kit_own is_NoField ty_NoField ss_BadSize sn_BadSize_NoField | .BadSize, .NoRoom => kit_own is_NoRoom ty_NoRoom ss_BadSize sn_BadSize_NoRoom | .BadThing, .BadSize => kit_own is_BadSize ty_BadSize ss_BadThing sn_BadThing_BadSize | .BadThing, .BadThing => kit_own is_BadThing ty_BadThing ss_BadThing ss_BadThing | .BadThing, .NoBox => kit_own is_NoBox ty_NoBox ss_BadThing sn_BadThing_NoBox | .BadThing, .NoField => kit_own is_NoField ty_NoField ss_BadThing sn_BadThing_NoField | .BadThing, .NoRoom => kit_own is_NoRoom ty_NoRoom ss_BadThing sn_BadThing_NoRoom | .NoBox, .BadSize => kit_own is_BadSize ty_BadSize ss_NoBox sn_NoBox_BadSize | .NoBox, .BadThing => kit_own is_BadThing ty_BadThing ss_NoBox sn_NoBox_BadThing | .NoBox, .NoBox => kit_own is_NoBox ty_NoBox ss_NoBox ss_NoBox | .NoBox, .NoField => kit_own is_NoField ty_NoField ss_NoBox sn_NoBox_NoField | .NoBox, .NoRoom => kit_own is_NoRoom ty_NoRoom ss_NoBox sn_NoBox_NoRoom | .NoField, .BadSize => kit_own is_BadSize ty_BadSize ss_NoField sn_NoField_BadSize | .NoField, .BadThing => kit_own is_BadThing ty_BadThing ss_NoField sn_NoField_BadThing | .NoField, .NoBox => kit_own is_NoBox ty_NoBox ss_NoField sn_NoField_NoBox | .NoField, .NoField => kit_own is_NoField ty_NoField ss_NoField ss_NoField | .NoField, .NoRoom => kit_own is_NoRoom ty_NoRoom ss_NoField sn_NoField_NoRoom | .NoRoom, .BadSize => kit_own is_BadSize ty_BadSize ss_NoRoom sn_NoRoom_BadSize | .NoRoom, .BadThing => kit_own is_BadThing ty_BadThing ss_NoRoom sn_NoRoom_BadThing | .NoRoom, .NoBox => kit_own is_NoBox ty_NoBox ss_NoRoom sn_NoRoom_NoBox | .NoRoom, .NoField => kit_own is_NoField ty_NoField ss_NoRoom sn_NoRoom_NoField | .NoRoom, .NoRoom => kit_own is_NoRoom ty_NoRoom ss_NoRoom ss_NoRoom), (fun r => match r with | .BadSize => kit_own is_SlideError ty_SlideError ss_BadSize sl_BadSize | .BadThing => kit_own is_SlideError ty_SlideError ss_BadThing sl_BadThing | .NoBox => kit_own is_SlideError ty_SlideError ss_NoBox sl_NoBox | .NoField => kit_own is_SlideError ty_SlideError ss_NoField sl_NoField | .NoRoom => kit_own is_SlideError ty_SlideError ss_NoRoom sl_NoRoom), (fun r => match r with | .BadSize => kit_ve sv_BadSize | .BadThing => kit_ve sv_BadThing | .NoBox => kit_ve sv_NoBox | .NoField => kit_ve sv_NoField | .NoRoom => kit_ve sv_NoRoom), (fun r q => match r, q with | .BadSize, .BadSize => PySem.W.exm_ref sb_BadSize hd_BadSize ty_BadSize ss_BadSize | .BadSize, .BadThing => PySem.W.exm_ref sb_BadThing hd_BadThing ty_BadThing sn_BadSize_BadThing | .BadSize, .NoBox => PySem.W.exm_ref sb_NoBox hd_NoBox ty_NoBox sn_BadSize_NoBox | .BadSize, .NoField => PySem.W.exm_ref sb_NoField hd_NoField ty_NoField sn_BadSize_NoField | .BadSize, .NoRoom => PySem.W.exm_ref sb_NoRoom hd_NoRoom ty_NoRoom sn_BadSize_NoRoom | .BadThing, .BadSize => PySem.W.exm_ref sb_BadSize hd_BadSize ty_BadSize sn_BadThing_BadSize | .BadThing, .BadThing => PySem.W.exm_ref sb_BadThing hd_BadThing ty_BadThing ss_BadThing | .BadThing, .NoBox => PySem.W.exm_ref sb_NoBox hd_NoBox ty_NoBox sn_BadThing_NoBox | .BadThing, .NoField => PySem.W.exm_ref sb_NoField hd_NoField ty_NoField sn_BadThing_NoField | .BadThing, .NoRoom => PySem.W.exm_ref sb_NoRoom hd_NoRoom ty_NoRoom sn_BadThing_NoRoom | .NoBox, .BadSize => PySem.W.exm_ref sb_BadSize hd_BadSize ty_BadSize sn_NoBox_BadSize | .NoBox, .BadThing => PySem.W.exm_ref sb_BadThing hd_BadThing ty_BadThing sn_NoBox_BadThing | .NoBox, .NoBox => PySem.W.exm_ref sb_NoBox hd_NoBox ty_NoBox ss_NoBox | .NoBox, .NoField => PySem.W.exm_ref sb_NoField hd_NoField ty_NoField sn_NoBox_NoField | .NoBox, .NoRoom => PySem.W.exm_ref sb_NoRoom hd_NoRoom ty_NoRoom sn_NoBox_NoRoom | .NoField, .BadSize => PySem.W.exm_ref sb_BadSize hd_BadSize ty_BadSize sn_NoField_BadSize | .NoField, .BadThing => PySem.W.exm_ref sb_BadThing hd_BadThing ty_BadThing sn_NoField_BadThing | .NoField, .NoBox => PySem.W.exm_ref sb_NoBox hd_NoBox ty_NoBox sn_NoField_NoBox | .NoField, .NoField => PySem.W.exm_ref sb_NoField hd_NoField ty_NoField ss_NoField | .NoField, .NoRoom => PySem.W.exm_ref sb_NoRoom hd_NoRoom ty_NoRoom sn_NoField_NoRoom | .NoRoom, .BadSize => PySem.W.exm_ref sb_BadSize hd_BadSize ty_BadSize sn_NoRoom_BadSize | .NoRoom, .BadThing => PySem.W.exm_ref sb_BadThing hd_BadThing ty_BadThing sn_NoRoom_BadThing | .NoRoom, .NoBox => PySem.W.exm_ref sb_NoBox hd_NoBox ty_NoBox sn_NoRoom_NoBox | .NoRoom, .NoField => PySem.W.exm_ref sb_NoField hd_NoField ty_NoField sn_NoRoom_NoField | .NoRoom, .NoRoom => PySem.W.exm_ref sb_NoRoom hd_NoRoom ty_NoRoom ss_NoRoom)⟩
  exact ⟨_, fun s v => .of_eq rfl, fun base _ _ => ok_law T⟩
end Mine
open PySem PySem.W PyProof.Rows
set_option maxRecDepth 100000 in
set_option maxHeartbeats 0 in
theorem PySem.Challenge.cw_threadslide_k06_what_is_refused_holds : PySem.Challenge.rw_threadslide_k06_what_is_refused.Holds := by
  w_on; o_law; k_head; (case hw => w_witness2)
  k_fill
  refine Mine.walk_ofG (l := PySem.Challenge.rw_threadslide_k06_what_is_refused) (n := 63) (k := 7) (x := "_law_script") (sp := fun w => Mine.sp_law _) rfl (by decide) rfl ⟨rfl, by decide, by decide⟩ (fun w h Y => PySem.W.kIn_of Y) ?F (fun _ _ a ns hl hb _ hS => ⟨a, ns, rfl, hS, hl, hb, fun _ => rfl⟩)
  case F =>
    intro w mg fa h KX G hmg
    refine' Mine.all_mk KX G hmg ?a0 ?l0 ?c0 ?k0 ?a1 ?l1 ?c1 ?k1 ?a2 ?l2 ?c2 ?k2 ?a3 ?l3 ?c3 ?k3 ?a4 ?l4 ?c4 ?k4 ?a5 ?l5 ?c5 ?k5 ?a6 ?l6 ?c6 ?k6 ?a7 ?l7 ?c7 ?k7 ?a8 ?l8 ?c8 ?k8 ?a9 ?l9 ?c9 ?k9 ?a10 ?i10 ?l10 ?c10 ?k10 ?a11 ?i11 ?l11 ?c11 ?k11 ?a12 ?i12 ?l12 ?c12 ?k12 ?a13 ?i13 ?l13 ?c13 ?k13 ?a14 ?i14 ?l14 ?c14 ?k14 ?a15 ?i15 ?l15 ?c15 ?k15 ?a16 ?i16 ?l16 ?c16 ?k16 ?a17 ?i17 ?l17 ?c17 ?k17 ?a18 ?i18 ?l18 ?c18 ?k18 ?a19 ?l19 ?c19 ?k19 ?a20 ?l20 ?c20 ?k20 ?a21 ?l21 ?c21 ?k21 ?a22 ?l22 ?c22 ?k22 ?a23 ?l23 ?c23 ?k23 ?a24 ?l24 ?c24 ?k24 ?a25 ?l25 ?c25 ?k25 ?a26 ?l26 ?c26 ?k26 ?a27 ?l27 ?c27 ?k27 ?a28 ?l28 ?c28 ?k28 ?a29 ?l29 ?c29 ?k29 ?a30 ?l30 ?c30 ?k30 ?a31 ?l31 ?c31 ?k31 ?a32 ?l32 ?c32 ?k32 ?a33 ?l33 ?c33 ?k33 ?a34 ?l34 ?c34 ?k34 ?a35 ?l35 ?c35 ?k35 ?a36 ?l36 ?c36 ?k36 ?aC_SlideError ?aC_BadSize ?aC_BadThing ?aC_NoBox ?aC_NoField ?aC_NoRoom ?aC_Room ?z_ValueError ?z_abs ?z_bool ?z_int ?z_isinstance ?z_len ?z_list ?z_max ?z_range ?z_repr ?z_str ?z_tuple ?co_MOST_CELLS ?co_MOST_DOORS ?pgR ?hdR ?poR ?saR ?mkR ?kcR ?nRow ?nFil ?x_SlideError ?kx_SlideError ?sb_SlideError ?ty_SlideError ?is_SlideError ?ss_SlideError ?x_BadSize ?kx_BadSize ?sb_BadSize ?ty_BadSize ?is_BadSize ?ss_BadSize ?x_BadThing ?kx_BadThing ?sb_BadThing ?ty_BadThing ?is_BadThing ?ss_BadThing ?x_NoBox ?kx_NoBox ?sb_NoBox ?ty_NoBox ?is_NoBox ?ss_NoBox ?x_NoField ?kx_NoField ?sb_NoField ?ty_NoField ?is_NoField ?ss_NoField ?x_NoRoom ?kx_NoRoom ?sb_NoRoom ?ty_NoRoom ?is_NoRoom ?ss_NoRoom ?sv_BadSize ?sl_BadSize ?hd_BadSize ?hg_BadSize ?hk_BadSize ?ha_BadSize ?hm_BadSize ?sv_BadThing ?sl_BadThing ?hd_BadThing ?hg_BadThing ?hk_BadThing ?ha_BadThing ?hm_BadThing ?sv_NoBox ?sl_NoBox ?hd_NoBox ?hg_NoBox ?hk_NoBox ?ha_NoBox ?hm_NoBox ?sv_NoField ?sl_NoField ?hd_NoField ?hg_NoField ?hk_NoField ?ha_NoField ?hm_NoField ?sv_NoRoom ?sl_NoRoom ?hd_NoRoom ?hg_NoRoom ?hk_NoRoom ?ha_NoRoom ?hm_NoRoom ?sn_BadSize_BadThing ?sn_BadSize_NoBox ?sn_BadSize_NoField ?sn_BadSize_NoRoom ?sn_BadThing_BadSize ?sn_BadThing_NoBox ?sn_BadThing_NoField ?sn_BadThing_NoRoom ?sn_NoBox_BadSize ?sn_NoBox_BadThing ?sn_NoBox_NoField ?sn_NoBox_NoRoom ?sn_NoField_BadSize ?sn_NoField_BadThing ?sn_NoField_NoBox ?sn_NoField_NoRoom ?sn_NoRoom_BadSize ?sn_NoRoom_BadThing ?sn_NoRoom_NoBox ?sn_NoRoom_NoField ?hn ?ht
    (case aC_SlideError => k_is)
    (case aC_BadSize => k_is)
    (case aC_BadThing => k_is)
    (case aC_NoBox => k_is)
    (case aC_NoField => k_is)
    (case aC_NoRoom => k_is)
    (case aC_Room => k_is)
    (case a0 => k_is)
    (case l0 => k_is)
    (case c0 => k_is)
    (case k0 => k_is)
    (case a1 => k_is)
    (case l1 => k_is)
    (case c1 => k_is)
    (case k1 => k_is)
    (case a2 => k_is)
    (case l2 => k_is)
    (case c2 => k_is)
    (case k2 => k_is)
    (case a3 => k_is)
    (case l3 => k_is)
    (case c3 => k_is)
    (case k3 => k_is)
    (case a4 => k_is)
    (case l4 => k_is)
    (case c4 => k_is)
    (case k4 => k_is)
    (case a5 => k_is)
    (case l5 => k_is)
    (case c5 => k_is)
    (case k5 => k_is)
    (case a6 => k_is)
    (case l6 => k_is)
    (case c6 => k_is)
    (case k6 => k_is)
    (case a7 => k_is)
    (case l7 => k_is)
    (case c7 => k_is)
    (case k7 => k_is)
    (case a8 => k_is)
    (case l8 => k_is)
    (case c8 => k_is)
    (case k8 => k_is)
    (case a9 => k_is)
    (case l9 => k_is)
    (case c9 => k_is)
    (case k9 => k_is)
    (case a10 => k_is)
    (case i10 => k_is)
    (case l10 => k_is)
    (case c10 => k_is)
    (case k10 => k_is)
    (case a11 => k_is)
    (case i11 => k_is)
    (case l11 => k_is)
    (case c11 => k_is)
    (case k11 => k_is)
    (case a12 => k_is)
    (case i12 => k_is)
    (case l12 => k_is)
    (case c12 => k_is)
    (case k12 => k_is)
    (case a13 => k_is)
    (case i13 => k_is)
    (case l13 => k_is)
    (case c13 => k_is)
    (case k13 => k_is)
    (case a14 => k_is)
    (case i14 => k_is)
    (case l14 => k_is)
    (case c14 => k_is)
    (case k14 => k_is)
    (case a15 => k_is)
    (case i15 => k_is)
    (case l15 => k_is)
    (case c15 => k_is)
    (case k15 => k_is)
    (case a16 => k_is)
    (case i16 => k_is)
    (case l16 => k_is)
    (case c16 => k_is)
    (case k16 => k_is)
    (case a17 => k_is)
    (case i17 => k_is)
    (case l17 => k_is)
    (case c17 => k_is)
    (case k17 => k_is)
    (case a18 => k_is)
    (case i18 => k_is)
    (case l18 => k_is)
    (case c18 => k_is)
    (case k18 => k_is)
    (case a19 => k_is)
    (case l19 => k_is)
    (case c19 => k_is)
    (case k19 => k_is)
    (case a20 => k_is)
    (case l20 => k_is)
    (case c20 => k_is)
    (case k20 => k_is)
    (case a21 => k_is)
    (case l21 => k_is)
    (case c21 => k_is)
    (case k21 => k_is)
    (case a22 => k_is)
    (case l22 => k_is)
    (case c22 => k_is)
    (case k22 => k_is)
    (case a23 => k_is)
    (case l23 => k_is)
    (case c23 => k_is)
    (case k23 => k_is)
    (case a24 => k_is)
    (case l24 => k_is)
    (case c24 => k_is)
    (case k24 => k_is)
    (case a25 => k_is)
    (case l25 => k_is)
    (case c25 => k_is)
    (case k25 => k_is)
    (case a26 => k_is)
    (case l26 => k_is)
    (case c26 => k_is)
    (case k26 => k_is)
    (case a27 => k_is)
    (case l27 => k_is)
    (case c27 => k_is)
    (case k27 => k_is)
    (case a28 => k_is)
    (case l28 => k_is)
    (case c28 => k_is)
    (case k28 => k_is)
    (case a29 => k_is)
    (case l29 => k_is)
    (case c29 => k_is)
    (case k29 => k_is)
    (case a30 => k_is)
    (case l30 => k_is)
    (case c30 => k_is)
    (case k30 => k_is)
    (case a31 => k_is)
    (case l31 => k_is)
    (case c31 => k_is)
    (case k31 => k_is)
    (case a32 => k_is)
    (case l32 => k_is)
    (case c32 => k_is)
    (case k32 => k_is)
    (case a33 => k_is)
    (case l33 => k_is)
    (case c33 => k_is)
    (case k33 => k_is)
    (case a34 => k_is)
    (case l34 => k_is)
    (case c34 => k_is)
    (case k34 => k_is)
    (case a35 => k_is)
    (case l35 => k_is)
    (case c35 => k_is)
    (case k35 => k_is)
    (case a36 => k_is)
    (case l36 => k_is)
    (case c36 => k_is)
    (case k36 => k_is)
    (case z_ValueError => k_is)
    (case z_abs => k_is)
    (case z_bool => k_is)
    (case z_int => k_is)
    (case z_isinstance => k_is)
    (case z_len => k_is)
    (case z_list => k_is)
    (case z_max => k_is)
    (case z_range => k_is)
    (case z_repr => k_is)
    (case z_str => k_is)
    (case z_tuple => k_is)
    (case co_MOST_CELLS => k_is)
    (case co_MOST_DOORS => k_is)
    (case pgR => k_is)
    (case hdR => k_is)
    (case poR => k_is)
    (case saR => k_is)
    (case mkR => k_is)
    (case kcR => k_is)
    (case nRow => k_is)
    (case nFil => k_is)
    (case x_SlideError => k_exc)
    (case kx_SlideError => k_is)
    (case sb_SlideError => k_is)
    (case ty_SlideError => k_is)
    (case is_SlideError => k_is)
    (case ss_SlideError => first | rfl | k_is)
    (case x_BadSize => k_exc)
    (case kx_BadSize => k_is)
    (case sb_BadSize => k_is)
    (case ty_BadSize => k_is)
    (case is_BadSize => k_is)
    (case ss_BadSize => first | rfl | k_is)
    (case x_BadThing => k_exc)
    (case kx_BadThing => k_is)
    (case sb_BadThing => k_is)
    (case ty_BadThing => k_is)
    (case is_BadThing => k_is)
    (case ss_BadThing => first | rfl | k_is)
    (case x_NoBox => k_exc)
    (case kx_NoBox => k_is)
    (case sb_NoBox => k_is)
    (case ty_NoBox => k_is)
    (case is_NoBox => k_is)
    (case ss_NoBox => first | rfl | k_is)
    (case x_NoField => k_exc)
    (case kx_NoField => k_is)
    (case sb_NoField => k_is)
    (case ty_NoField => k_is)
    (case is_NoField => k_is)
    (case ss_NoField => first | rfl | k_is)
    (case x_NoRoom => k_exc)
    (case kx_NoRoom => k_is)
    (case sb_NoRoom => k_is)
    (case ty_NoRoom => k_is)
    (case is_NoRoom => k_is)
    (case ss_NoRoom => first | rfl | k_is)
    (case sv_BadSize => k_is)
    (case sl_BadSize => k_is)
    (case hd_BadSize => k_is)
    (case hg_BadSize => k_is)
    (case hk_BadSize => k_is)
    (case ha_BadSize => k_is)
    (case hm_BadSize => k_is)
    (case sv_BadThing => k_is)
    (case sl_BadThing => k_is)
    (case hd_BadThing => k_is)
    (case hg_BadThing => k_is)
    (case hk_BadThing => k_is)
    (case ha_BadThing => k_is)
    (case hm_BadThing => k_is)
    (case sv_NoBox => k_is)
    (case sl_NoBox => k_is)
    (case hd_NoBox => k_is)
    (case hg_NoBox => k_is)
    (case hk_NoBox => k_is)
    (case ha_NoBox => k_is)
    (case hm_NoBox => k_is)
    (case sv_NoField => k_is)
    (case sl_NoField => k_is)
    (case hd_NoField => k_is)
    (case hg_NoField => k_is)
    (case hk_NoField => k_is)
    (case ha_NoField => k_is)
    (case hm_NoField => k_is)
    (case sv_NoRoom => k_is)
    (case sl_NoRoom => k_is)
    (case hd_NoRoom => k_is)
    (case hg_NoRoom => k_is)
    (case hk_NoRoom => k_is)
    (case ha_NoRoom => k_is)
    (case hm_NoRoom => k_is)
    (case sn_BadSize_BadThing => k_is)
    (case sn_BadSize_NoBox => k_is)
    (case sn_BadSize_NoField => k_is)
    (case sn_BadSize_NoRoom => k_is)
    (case sn_BadThing_BadSize => k_is)
    (case sn_BadThing_NoBox => k_is)
    (case sn_BadThing_NoField => k_is)
    (case sn_BadThing_NoRoom => k_is)
    (case sn_NoBox_BadSize => k_is)
    (case sn_NoBox_BadThing => k_is)
    (case sn_NoBox_NoField => k_is)
    (case sn_NoBox_NoRoom => k_is)
    (case sn_NoField_BadSize => k_is)
    (case sn_NoField_BadThing => k_is)
    (case sn_NoField_NoBox => k_is)
    (case sn_NoField_NoRoom => k_is)
    (case sn_NoRoom_BadSize => k_is)
    (case sn_NoRoom_BadThing => k_is)
    (case sn_NoRoom_NoBox => k_is)
    (case sn_NoRoom_NoField => k_is)
    (case hn => k_is)
    (case ht => k_is)
