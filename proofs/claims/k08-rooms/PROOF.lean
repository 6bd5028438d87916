import PyProof.Rows.All
import Wide.All
import OpenK.AllK
import Wide.FinOn
import HandS.ForMost
import HandS.IsInst
import HandS.EndBits
import HandS.SortInts
import HandS.Evl
import KE.GoesComp
import KE.GoesRaise
import HandS.ForExc
import HandS.TryOnly
import HandS.WordsExc
import HandS.Dict
import PySem.Challenge.RW_threadslide_k08_whole_rooms
set_option Elab.async false
set_option linter.all false
set_option maxRecDepth 100000
set_option maxHeartbeats 4000000

namespace TS
/-- the word of a link to a cell -/
def lk (p : Nat) : Int := 2 * (p : Int) + 1
theorem lk_odd (p : Nat) : lk p % 2 = 1 := by unfold lk; omega
theorem lk_half (p : Nat) : lk p / 2 = (p : Int) := by unfold lk; omega
theorem lk_inj {p q : Nat} (h : lk p = lk q) : p = q := by unfold lk at h; omega

/-- from the cell h a chain of links goes through cs, and the last cell holds w -/
def Chain (C : List Int) : Nat → List Nat → Int → Prop
  | h, [], w => C[h]? = some w
  | h, c :: cs, w => C[h]? = some (lk c) ∧ Chain C c cs w
theorem Chain.frame {C C' : List Int} : ∀ {cs : List Nat} {h : Nat} {w : Int}, Chain C h cs w → (∀ i, i = h ∨ i ∈ cs → C'[i]? = C[i]?) → Chain C' h cs w
  | [], h, w, x, k => by
    show C'[h]? = some w
    rw [k h (.inl rfl)]
    exact x
  | c :: cs, h, w, x, k => by
    refine ⟨?_, Chain.frame (cs := cs) x.2 fun i hi => k i (.inr ?_)⟩
    · rw [k h (.inl rfl)]
      exact x.1
    · rcases hi with rfl | hi
      · exact List.mem_cons_self
      · exact List.mem_cons_of_mem _ hi
/-- the first cell of a chain is another one that holds the same -/
theorem Chain.move {C C' : List Int} : ∀ {cs : List Nat} {h h' : Nat} {w : Int}, Chain C h cs w → C'[h']? = C[h]? → (∀ i, i ∈ cs → C'[i]? = C[i]?) → Chain C' h' cs w
  | [], h, h', w, x, e, _ => by
    show C'[h']? = some w
    rw [e]
    exact x
  | c :: cs, h, h', w, x, e, k => by
    refine ⟨?_, x.2.frame fun i hi => k i ?_⟩
    · rw [e]
      exact x.1
    · rcases hi with rfl | hi
      · exact List.mem_cons_self
      · exact List.mem_cons_of_mem _ hi
theorem Chain.lt {C : List Int} : ∀ {cs : List Nat} {h : Nat} {w : Int}, Chain C h cs w → ∀ i, i = h ∨ i ∈ cs → i < C.length
  | [], h, w, x, i, hi => by
    rcases hi with rfl | hi
    · exact (List.getElem?_eq_some_iff.mp x).1
    · cases hi
  | c :: cs, h, w, x, i, hi => by
    rcases hi with rfl | hi
    · exact (List.getElem?_eq_some_iff.mp x.1).1
    · exact Chain.lt (cs := cs) x.2 i (List.mem_cons.mp hi)
/-- one turn of taking a chain back -/
theorem Chain.turn {C : List Int} {h c : Nat} {cs : List Nat} {w x l : Int} (k : Chain C h (c :: cs) w) (nd : (h :: c :: cs).Nodup) (hx : C[c]? = some x) : Chain ((C.set h x).set c l) h cs w := by
  have hh := k.lt h (.inl rfl)
  have n1 := List.nodup_cons.mp nd
  have n2 := List.nodup_cons.mp n1.2
  have hc : h ≠ c := fun e => n1.1 (by rw [e]; exact List.mem_cons_self)
  refine k.2.move ?_ fun i hi => ?_
  · rw [List.getElem?_set_ne (Ne.symm hc), List.getElem?_set_self hh, hx]
  · have i1 : c ≠ i := fun e => n2.1 (by rw [e]; exact hi)
    have i2 : h ≠ i := fun e => n1.1 (by rw [e]; exact List.mem_cons_of_mem _ hi)
    rw [List.getElem?_set_ne i1, List.getElem?_set_ne i2]
/-- what taking a chain back leaves -/
structure Led (C : List Int) (h : Nat) (cs : List Nat) (w l : Int) (C' : List Int) : Prop where
  len : C'.length = C.length
  head : C'[h]? = some w
  cell : ∀ c, c ∈ cs → C'[c]? = some l
  rest : ∀ i, i ≠ h → i ∉ cs → C'[i]? = C[i]?
/-- some turns of it: the cells ds are done, cs are to come -/
structure Leds (C : List Int) (h : Nat) (ds cs : List Nat) (w l : Int) (C' : List Int) : Prop where
  len : C'.length = C.length
  ch : Chain C' h cs w
  nd : (h :: cs).Nodup
  dn : ∀ c, c ∈ ds → c ∉ cs ∧ c ≠ h
  cell : ∀ c, c ∈ ds → C'[c]? = some l
  rest : ∀ i, i ≠ h → i ∉ ds → i ∉ cs → C'[i]? = C[i]?
theorem Leds.start {C : List Int} {h : Nat} {cs : List Nat} {w l : Int} (k : Chain C h cs w) (nd : (h :: cs).Nodup) : Leds C h [] cs w l C :=
  ⟨rfl, k, nd, fun _ z => (nomatch z), fun _ z => (nomatch z), fun _ _ _ _ => rfl⟩
theorem Leds.turn {C C' : List Int} {h c : Nat} {ds cs : List Nat} {w l x : Int} (k : Leds C h ds (c :: cs) w l C') (hx : C'[c]? = some x) : Leds C h (c :: ds) cs w l ((C'.set h x).set c l) := by
  have n1 := List.nodup_cons.mp k.nd
  have n2 := List.nodup_cons.mp n1.2
  have hc : h ≠ c := fun e => n1.1 (by rw [e]; exact List.mem_cons_self)
  have lc : c < C'.length := (List.getElem?_eq_some_iff.mp hx).1
  refine ⟨by simp [k.len], k.ch.turn k.nd hx, List.nodup_cons.mpr ⟨fun z => n1.1 (List.mem_cons_of_mem _ z), n2.2⟩, fun d hd => ?_, fun d hd => ?_, fun i h1 h2 h3 => ?_⟩
  · rcases List.mem_cons.mp hd with rfl | hd
    · exact ⟨n2.1, hc.symm⟩
    · exact ⟨fun z => (k.dn d hd).1 (List.mem_cons_of_mem _ z), (k.dn d hd).2⟩
  · by_cases e : d = c
    · subst e
      rw [List.getElem?_set_self (by simpa using lc)]
    · rcases List.mem_cons.mp hd with q | hd
      · exact absurd q e
      · rw [List.getElem?_set_ne (Ne.symm e), List.getElem?_set_ne (Ne.symm (k.dn d hd).2)]
        exact k.cell d hd
  · have e : i ≠ c := fun q => h2 (by rw [q]; exact List.mem_cons_self)
    rw [List.getElem?_set_ne (Ne.symm e), List.getElem?_set_ne (Ne.symm h1)]
    refine k.rest i h1 (fun z => h2 (List.mem_cons_of_mem _ z)) fun z => ?_
    rcases List.mem_cons.mp z with q | z
    · exact e q
    · exact h3 z
theorem Leds.done {C C' : List Int} {h : Nat} {ds : List Nat} {w l : Int} (k : Leds C h ds [] w l C') : Led C h ds w l C' :=
  ⟨k.len, k.ch, k.cell, fun i h1 h2 => k.rest i h1 h2 (fun z => nomatch z)⟩

/-! ### the row while it is hung up and led -/
/-- what a cell holds by its meaning: a word, or it hangs at a head -/
inductive Ct where
  | pl (x : Int) | hg (h : Nat)
  deriving DecidableEq
/-- from the cell b on: at each head of hd hang just the cells that ex says, and its word w stands at the chain's end; the others hold their words -/
structure CInv (C : List Int) (N b : Nat) (hd : Nat → Prop) (w : Nat → Int) (ex : Nat → Ct) : Prop where
  len : C.length = N
  ch : ∀ h, b ≤ h → hd h → ∃ cs, (h :: cs).Nodup ∧ (∀ c, c ∈ cs ↔ (c < N ∧ ¬ hd c ∧ ex c = .hg h)) ∧ Chain C h cs (w h)
  pl : ∀ c x, b ≤ c → c < N → ¬ hd c → ex c = .pl x → C[c]? = some x
theorem CInv.congr {C : List Int} {N b : Nat} {hd : Nat → Prop} {w : Nat → Int} {ex ex' : Nat → Ct} (k : CInv C N b hd w ex) (e : ∀ c, c < N → ¬ hd c → ex c = ex' c) : CInv C N b hd w ex' := by
  refine ⟨k.len, fun h hb hh => ?_, fun c x hb hc hn hx => k.pl c x hb hc hn ((e c hc hn).trans hx)⟩
  obtain ⟨cs, nd, hm, ch⟩ := k.ch h hb hh
  refine ⟨cs, nd, fun c => ?_, ch⟩
  rw [hm c]
  constructor
  · rintro ⟨a, b, d⟩
    exact ⟨a, b, by rw [← e c a b]; exact d⟩
  · rintro ⟨a, b, d⟩
    exact ⟨a, b, by rw [e c a b]; exact d⟩
/-- a head is led to a place -/
theorem CInv.led {C C' : List Int} {N b h : Nat} {hd : Nat → Prop} {w : Nat → Int} {ex : Nat → Ct} {cs : List Nat} {l : Int} (k : CInv C N b hd w ex) (hh : hd h)
    (hm : ∀ c, c ∈ cs ↔ (c < N ∧ ¬ hd c ∧ ex c = .hg h)) (L : Led C h cs (w h) l C') : CInv C' N b hd w (fun c => if ex c = .hg h then .pl l else ex c) := by
  refine ⟨L.len.trans k.len, fun h' hb hh' => ?_, fun c x hb hc hn hx => ?_⟩
  · by_cases e : h' = h
    · subst e
      refine ⟨[], by simp, fun c => ?_, L.head⟩
      constructor
      · intro z; cases z
      · rintro ⟨_, _, q⟩
        split at q
        · cases q
        · rename_i z; exact absurd q z
    · obtain ⟨ds, nd, hm', ch⟩ := k.ch h' hb hh'
      refine ⟨ds, nd, fun c => ?_, ch.frame fun i hi => L.rest i ?_ ?_⟩
      · rw [hm' c]
        constructor
        · rintro ⟨a, b, d⟩
          refine ⟨a, b, ?_⟩
          rw [if_neg (by rw [d]; intro z; cases z; exact e rfl)]
          exact d
        · rintro ⟨a, b, d⟩
          refine ⟨a, b, ?_⟩
          split at d
          · cases d
          · exact d
      · rcases hi with rfl | hi
        · exact e
        · intro q
          rw [q] at hi
          exact ((hm' h).mp hi).2.1 hh
      · intro z
        have z2 := (hm i).mp z
        rcases hi with rfl | hi
        · exact z2.2.1 hh'
        · have q := ((hm' i).mp hi).2.2
          rw [z2.2.2] at q
          cases q
          exact e rfl
  · have nh : c ≠ h := fun e => hn (by rw [e]; exact hh)
    by_cases e : ex c = .hg h
    · have e' : (if ex c = .hg h then Ct.pl l else ex c) = .pl l := if_pos e
      rw [e'] at hx
      cases hx
      exact L.cell c ((hm c).mpr ⟨hc, hn, e⟩)
    · have e' : (if ex c = .hg h then Ct.pl l else ex c) = ex c := if_neg e
      rw [e'] at hx
      rw [L.rest c nh fun z => e ((hm c).mp z).2.2]
      exact k.pl c x hb hc hn hx
/-- what hanging up leaves -/
def hungR (C : List Int) (c h : Nat) : List Int := (C.set c (C.getD h 0)).set h (lk c)
theorem CInv.hung {C : List Int} {N b c h : Nat} {hd : Nat → Prop} {w : Nat → Int} {ex : Nat → Ct} (k : CInv C N b hd w ex) (hb : b ≤ h) (hh : hd h) (hc : c < N) (hn : ¬ hd c) (hx : ex c = .pl (lk h)) (hN : h < N) :
    CInv (hungR C c h) N b hd w (fun i => if i = c then .hg h else ex i) := by
  have nch : c ≠ h := fun e => hn (by rw [e]; exact hh)
  have lh : h < C.length := by rw [k.len]; exact hN
  have lc : c < C.length := by rw [k.len]; exact hc
  have gh : C[h]? = some (C.getD h 0) := by
    rw [List.getElem?_eq_getElem lh, List.getD_eq_getElem?_getD, List.getElem?_eq_getElem lh]
    rfl
  have eh : (hungR C c h)[h]? = some (lk c) := by
    unfold hungR
    rw [List.getElem?_set_self (by simpa using lh)]
  have ec : (hungR C c h)[c]? = C[h]? := by
    unfold hungR
    rw [List.getElem?_set_ne (Ne.symm nch), List.getElem?_set_self lc, gh]
  have eo : ∀ i, i ≠ c → i ≠ h → (hungR C c h)[i]? = C[i]? := fun i h1 h2 => by
    unfold hungR
    rw [List.getElem?_set_ne (Ne.symm h2), List.getElem?_set_ne (Ne.symm h1)]
  refine ⟨by unfold hungR; simp [k.len], fun h' hb' hh' => ?_, fun i x hbi hi hni hxi => ?_⟩
  · obtain ⟨cs, nd, hm, ch⟩ := k.ch h' hb' hh'
    have nc : c ∉ cs := fun z => by
      have q := ((hm c).mp z).2.2
      rw [hx] at q
      cases q
    by_cases e : h' = h
    · subst e
      have n1 := List.nodup_cons.mp nd
      refine ⟨c :: cs, ?_, fun i => ?_, eh, ch.move ec fun i hi => eo i ?_ ?_⟩
      · refine List.nodup_cons.mpr ⟨fun z => ?_, List.nodup_cons.mpr ⟨nc, n1.2⟩⟩
        rcases List.mem_cons.mp z with q | z
        · exact nch q.symm
        · exact n1.1 z
      · rw [List.mem_cons, hm i]
        by_cases q : i = c
        · subst q
          rw [if_pos rfl]
          exact ⟨fun _ => ⟨hc, hn, rfl⟩, fun _ => .inl rfl⟩
        · rw [if_neg q]
          exact ⟨fun z => z.resolve_left q, .inr⟩
      · intro q
        exact nc (q ▸ hi)
      · intro q
        exact n1.1 (q ▸ hi)
    · refine ⟨cs, nd, fun i => ?_, ch.frame fun i hi => eo i ?_ ?_⟩
      · by_cases q : i = c
        · subst q
          rw [if_pos rfl]
          constructor
          · intro z; exact absurd z nc
          · rintro ⟨_, _, z⟩
            cases z
            exact absurd rfl e
        · rw [if_neg q]
          exact hm i
      · rcases hi with rfl | hi
        · intro q; exact hn (q ▸ hh')
        · intro q; exact nc (q ▸ hi)
      · rcases hi with rfl | hi
        · exact e
        · intro q
          exact ((hm h).mp (q ▸ hi)).2.1 hh
  · have hxi' : (if i = c then Ct.hg h else ex i) = .pl x := hxi
    by_cases q : i = c
    · rw [if_pos q] at hxi'
      cases hxi'
    · rw [if_neg q] at hxi'
      rw [eo i q fun z => hni (z ▸ hh)]
      exact k.pl i x hbi hi hni hxi'
/-- cells below the bound may change -/
theorem CInv.below {C C' : List Int} {N b b' : Nat} {hd : Nat → Prop} {w : Nat → Int} {ex : Nat → Ct} (k : CInv C N b hd w ex) (hb : b ≤ b') (hl : C'.length = C.length) (hs : ∀ i, b' ≤ i → C'[i]? = C[i]?)
    (hg : ∀ c h, c < N → ¬ hd c → ex c = .hg h → b' ≤ h → b' ≤ c) : CInv C' N b' hd w ex := by
  refine ⟨hl.trans k.len, fun h h1 h2 => ?_, fun c x h1 h2 h3 h4 => ?_⟩
  · obtain ⟨cs, nd, hm, ch⟩ := k.ch h (Nat.le_trans hb h1) h2
    refine ⟨cs, nd, hm, ch.frame fun i hi => hs i ?_⟩
    rcases hi with rfl | hi
    · exact h1
    · obtain ⟨a, b, d⟩ := (hm i).mp hi
      exact hg i h a b d h1
  · rw [hs c h1]
    exact k.pl c x (Nat.le_trans hb h1) h2 h3 h4
/-- the same by one cell more -/
theorem hungR_get {C : List Int} {c h : Nat} (lh : h < C.length) (lc : c < C.length) (nch : c ≠ h) :
    (hungR C c h)[h]? = some (lk c) ∧ (hungR C c h)[c]? = C[h]? ∧ ∀ i, i ≠ c → i ≠ h → (hungR C c h)[i]? = C[i]? := by
  have gh : C[h]? = some (C.getD h 0) := by
    rw [List.getElem?_eq_getElem lh, List.getD_eq_getElem?_getD, List.getElem?_eq_getElem lh]
    rfl
  unfold hungR
  refine ⟨?_, ?_, fun i h1 h2 => ?_⟩
  · rw [List.getElem?_set_self (by simpa using lh)]
  · rw [List.getElem?_set_ne (Ne.symm nch), List.getElem?_set_self lc, gh]
  · rw [List.getElem?_set_ne (Ne.symm h2), List.getElem?_set_ne (Ne.symm h1)]
theorem Chain.hung {C : List Int} {c h : Nat} {cs : List Nat} {w : Int} (k : Chain C h cs w) (nd : (h :: cs).Nodup) (lc : c < C.length) (nch : c ≠ h) (nc : c ∉ cs) : Chain (hungR C c h) h (c :: cs) w ∧ (h :: c :: cs).Nodup := by
  obtain ⟨e1, e2, e3⟩ := hungR_get (k.lt h (.inl rfl)) lc nch
  have n1 := List.nodup_cons.mp nd
  refine ⟨⟨e1, k.move e2 fun i hi => e3 i (fun q => nc (q ▸ hi)) fun q => n1.1 (q ▸ hi)⟩, ?_⟩
  refine List.nodup_cons.mpr ⟨fun z => ?_, List.nodup_cons.mpr ⟨nc, n1.2⟩⟩
  rcases List.mem_cons.mp z with q | z
  · exact nch q.symm
  · exact n1.1 z
theorem Led.hung {C D : List Int} {c h : Nat} {cs : List Nat} {w l : Int} (k : Led C h cs w l D) (lc : c < C.length) (lh : h < C.length) (nch : c ≠ h) : Led (hungR C c h) h (c :: cs) w l (D.set c l) := by
  obtain ⟨e1, e2, e3⟩ := hungR_get lh lc nch
  have lD : c < D.length := by rw [k.len]; exact lc
  refine ⟨by unfold hungR; simp [k.len], ?_, fun i hi => ?_, fun i h1 h2 => ?_⟩
  · rw [List.getElem?_set_ne nch]
    exact k.head
  · by_cases q : i = c
    · subst q
      exact List.getElem?_set_self lD
    · rw [List.getElem?_set_ne (Ne.symm q)]
      exact k.cell i ((List.mem_cons.mp hi).resolve_left q)
  · have q : i ≠ c := fun z => h2 (by rw [z]; exact List.mem_cons_self)
    rw [List.getElem?_set_ne (Ne.symm q), e3 i q h1]
    exact k.rest i h1 fun z => h2 (List.mem_cons_of_mem _ z)
theorem Led.uniq {C D D' : List Int} {h : Nat} {cs : List Nat} {w l : Int} (k : Led C h cs w l D) (k' : Led C h cs w l D') : D = D' := by
  refine List.ext_getElem? fun i => ?_
  by_cases q : i = h
  · rw [q, k.head, k'.head]
  · by_cases z : i ∈ cs
    · rw [k.cell i z, k'.cell i z]
    · rw [k.rest i q z, k'.rest i q z]
end TS
namespace TS
/-! ### rows of boxes -/
/-- the cells of boxes, each given by the words of its fields; M says which heads are marked -/
def mflat (M : Nat → Bool) : Nat → List (List Int) → List Int
  | _, [] => []
  | a, fs :: r => (4 * (fs.length : Int) + if M a then 2 else 0) :: (fs ++ mflat M (a + 1 + fs.length) r)
def size : List (List Int) → Nat
  | [] => 0
  | fs :: r => 1 + fs.length + size r
def places : Nat → List (List Int) → List Nat
  | _, [] => []
  | a, fs :: r => a :: places (a + 1 + fs.length) r
theorem size_append : ∀ (p r : List (List Int)), size (p ++ r) = size p + size r
  | [], r => by simp [size]
  | fs :: p, r => by
    show 1 + fs.length + size (p ++ r) = 1 + fs.length + size p + size r
    rw [size_append p r]
    omega
theorem mflat_length (M : Nat → Bool) : ∀ (a : Nat) (bs : List (List Int)), (mflat M a bs).length = size bs
  | _, [] => rfl
  | a, fs :: r => by
    show (fs ++ mflat M (a + 1 + fs.length) r).length + 1 = 1 + fs.length + size r
    rw [List.length_append, mflat_length M _ r]
    omega
theorem mflat_append (M : Nat → Bool) : ∀ (a : Nat) (p r : List (List Int)), mflat M a (p ++ r) = mflat M a p ++ mflat M (a + size p) r
  | a, [], r => by simp [mflat, size]
  | a, fs :: p, r => by
    show _ :: (fs ++ mflat M (a + 1 + fs.length) (p ++ r)) = (_ :: (fs ++ mflat M (a + 1 + fs.length) p)) ++ mflat M (a + (1 + fs.length + size p)) r
    rw [mflat_append M _ p r, List.cons_append, List.append_assoc, show a + 1 + fs.length + size p = a + (1 + fs.length + size p) by omega]
theorem places_append : ∀ (a : Nat) (p r : List (List Int)), places a (p ++ r) = places a p ++ places (a + size p) r
  | a, [], r => by simp [places, size]
  | a, fs :: p, r => by
    show a :: places (a + 1 + fs.length) (p ++ r) = (a :: places (a + 1 + fs.length) p) ++ places (a + (1 + fs.length + size p)) r
    rw [places_append _ p r, List.cons_append, show a + 1 + fs.length + size p = a + (1 + fs.length + size p) by omega]
theorem places_ge : ∀ {a : Nat} {bs : List (List Int)} {h : Nat}, h ∈ places a bs → a ≤ h ∧ h < a + size bs
  | a, [], h, x => nomatch x
  | a, fs :: r, h, x => by
    rcases List.mem_cons.mp x with rfl | x
    · show _ ≤ _ ∧ _ < _ + (1 + fs.length + size r)
      omega
    · have := places_ge x
      show _ ≤ _ ∧ _ < _ + (1 + fs.length + size r)
      omega
theorem places_split {p r : List (List Int)} {fs : List Int} {h : Nat} (x : h ∈ places 0 (p ++ fs :: r)) : h < size p ∨ h = size p ∨ size p + 1 + fs.length ≤ h := by
  rw [places_append, Nat.zero_add] at x
  rcases List.mem_append.mp x with x | x
  · have := (places_ge x).2
    omega
  · rcases List.mem_cons.mp x with x | x
    · exact .inr (.inl x)
    · have := (places_ge x).1
      omega
theorem places_split' {bs p r : List (List Int)} {fs : List Int} {h : Nat} (e : bs = p ++ fs :: r) (x : h ∈ places 0 bs) : h < size p ∨ h = size p ∨ size p + 1 + fs.length ≤ h := by
  subst e
  exact places_split x
theorem places_mid {p r : List (List Int)} {fs : List Int} : size p ∈ places 0 (p ++ fs :: r) := by
  rw [places_append, Nat.zero_add]
  exact List.mem_append_right _ List.mem_cons_self
/-- where a box stands -/
theorem places_at {bs : List (List Int)} {h : Nat} (x : h ∈ places 0 bs) : ∃ p fs r, bs = p ++ fs :: r ∧ h = size p := by
  have gen : ∀ (bs : List (List Int)) (a h : Nat), h ∈ places a bs → ∃ p fs r, bs = p ++ fs :: r ∧ h = a + size p := by
    intro bs
    induction bs with
    | nil => intro a h x; cases x
    | cons fs r ih =>
      intro a h x
      rcases List.mem_cons.mp x with rfl | x
      · exact ⟨[], fs, r, rfl, rfl⟩
      · obtain ⟨p, gs, r', e, eh⟩ := ih _ h x
        refine ⟨fs :: p, gs, r', by rw [e]; rfl, ?_⟩
        rw [eh]
        show _ = a + (1 + fs.length + size p)
        omega
  obtain ⟨p, fs, r, e, eh⟩ := gen bs 0 h x
  exact ⟨p, fs, r, e, by omega⟩
/-- a row splits at a place in one way -/
theorem split_uniq : ∀ {p p' r r' : List (List Int)} {fs fs' : List Int}, p ++ fs :: r = p' ++ fs' :: r' → size p = size p' → p = p' ∧ fs = fs' ∧ r = r'
  | [], [], r, r', fs, fs', e, _ => by
    injection e with e1 e2
    exact ⟨rfl, e1, e2⟩
  | [], g :: p', r, r', fs, fs', e, h => by
    have : 0 = 1 + g.length + size p' := h
    omega
  | g :: p, [], r, r', fs, fs', e, h => by
    have : 1 + g.length + size p = 0 := h
    omega
  | g :: p, g' :: p', r, r', fs, fs', e, h => by
    have e' : g :: (p ++ fs :: r) = g' :: (p' ++ fs' :: r') := e
    injection e' with e1 e2
    subst e1
    have h' : 1 + g.length + size p = 1 + g.length + size p' := h
    obtain ⟨a, b, c⟩ := split_uniq e2 (by omega)
    exact ⟨by rw [a], b, c⟩
section
variable {M : Nat → Bool} {p r : List (List Int)} {fs sp : List Int}
theorem row_head : (mflat M 0 (p ++ fs :: r) ++ sp)[size p]? = some (4 * (fs.length : Int) + if M (size p) then 2 else 0) := by
  rw [mflat_append, Nat.zero_add, List.append_assoc, List.getElem?_append_right (by rw [mflat_length]; exact Nat.le_refl _), mflat_length, Nat.sub_self]
  rfl
theorem row_field {f : Nat} (hf : f < fs.length) : (mflat M 0 (p ++ fs :: r) ++ sp)[size p + 1 + f]? = fs[f]? := by
  rw [mflat_append, Nat.zero_add, List.append_assoc, List.getElem?_append_right (by rw [mflat_length]; omega), mflat_length, show size p + 1 + f - size p = f + 1 by omega]
  show (fs ++ mflat M (size p + 1 + fs.length) r ++ sp)[f]? = fs[f]?
  rw [List.append_assoc, List.getElem?_append_left hf]
end
/-! ### the new places -/
/-- how many cells the boxes take that stay -/
def ksize (al : Nat → Bool) : Nat → List (List Int) → Nat
  | _, [] => 0
  | a, fs :: r => (if al a then 1 + fs.length else 0) + ksize al (a + 1 + fs.length) r
def qat (al : Nat → Bool) : Nat → Nat → List (List Int) → Nat → Nat
  | _, q, [], _ => q
  | a, q, fs :: r, h => if h ≤ a then q else qat al (a + 1 + fs.length) (q + if al a then 1 + fs.length else 0) r h
/-- where the box at a place stands behind the pushing -/
def qf (al : Nat → Bool) (bs : List (List Int)) (h : Nat) : Nat := qat al 0 0 bs h
theorem ksize_append (al : Nat → Bool) : ∀ (a : Nat) (p r : List (List Int)), ksize al a (p ++ r) = ksize al a p + ksize al (a + size p) r
  | a, [], r => by simp [ksize, size]
  | a, fs :: p, r => by
    show _ + ksize al (a + 1 + fs.length) (p ++ r) = _ + ksize al (a + 1 + fs.length) p + ksize al (a + (1 + fs.length + size p)) r
    rw [ksize_append al _ p r, show a + 1 + fs.length + size p = a + (1 + fs.length + size p) by omega]
    omega
theorem ksize_le (al : Nat → Bool) : ∀ (a : Nat) (bs : List (List Int)), ksize al a bs ≤ size bs
  | _, [] => Nat.le_refl _
  | a, fs :: r => by
    show (if al a then 1 + fs.length else 0) + ksize al (a + 1 + fs.length) r ≤ 1 + fs.length + size r
    have := ksize_le al (a + 1 + fs.length) r
    split <;> omega
theorem qat_eq (al : Nat → Bool) : ∀ (p r : List (List Int)) (a q : Nat), qat al a q (p ++ r) (a + size p) = q + ksize al a p
  | [], [], a, q => rfl
  | [], fs :: r, a, q => by
    show (if a + 0 ≤ a then q else _) = q
    rw [if_pos (show a + 0 ≤ a from Nat.le_refl a)]
  | fs :: p, r, a, q => by
    show (if a + (1 + fs.length + size p) ≤ a then q else qat al (a + 1 + fs.length) (q + if al a then 1 + fs.length else 0) (p ++ r) (a + (1 + fs.length + size p))) = q + ((if al a then 1 + fs.length else 0) + ksize al (a + 1 + fs.length) p)
    rw [if_neg (by omega), show a + (1 + fs.length + size p) = a + 1 + fs.length + size p by omega, qat_eq al p r]
    omega
theorem qf_eq {al : Nat → Bool} {p r : List (List Int)} : qf al (p ++ r) (size p) = ksize al 0 p := by
  have h := qat_eq al p r 0 0
  rw [Nat.zero_add, Nat.zero_add] at h
  exact h
/-- a field's word behind the pushing -/
def relink (q : Nat → Nat) (x : Int) : Int := if x % 2 = 1 then lk (q (x / 2).toNat) else x
/-- the row pushed together -/
def outR (al : Nat → Bool) (q : Nat → Nat) : Nat → List (List Int) → List Int
  | _, [] => []
  | a, fs :: r => (if al a then (4 * (fs.length : Int)) :: fs.map (relink q) else []) ++ outR al q (a + 1 + fs.length) r
theorem outR_length (al : Nat → Bool) (q : Nat → Nat) : ∀ (a : Nat) (bs : List (List Int)), (outR al q a bs).length = ksize al a bs
  | _, [] => rfl
  | a, fs :: r => by
    show ((if al a then (4 * (fs.length : Int)) :: fs.map (relink q) else []) ++ outR al q (a + 1 + fs.length) r).length = (if al a then 1 + fs.length else 0) + ksize al (a + 1 + fs.length) r
    rw [List.length_append, outR_length al q _ r]
    split
    · simp
      omega
    · simp
theorem outR_append (al : Nat → Bool) (q : Nat → Nat) : ∀ (a : Nat) (p r : List (List Int)), outR al q a (p ++ r) = outR al q a p ++ outR al q (a + size p) r
  | a, [], r => by simp [outR, size]
  | a, fs :: p, r => by
    show _ ++ outR al q (a + 1 + fs.length) (p ++ r) = (_ ++ outR al q (a + 1 + fs.length) p) ++ outR al q (a + (1 + fs.length + size p)) r
    rw [outR_append al q _ p r, List.append_assoc, show a + 1 + fs.length + size p = a + (1 + fs.length + size p) by omega]

/-! ### the two passes -/
/-- a marked row, al its boxes that can be come to: their links lead to such boxes -/
structure Live (al : Nat → Bool) (bs : List (List Int)) : Prop where
  ok : ∀ p fs r x, bs = p ++ fs :: r → al (size p) = true → x ∈ fs → x % 2 = 1 → ∃ h, x = lk h ∧ h ∈ places 0 bs ∧ al h = true
/-- a field's cell in a box that stays -/
def FA (al : Nat → Bool) (bs : List (List Int)) (c : Nat) : Prop := ∃ p fs r, bs = p ++ fs :: r ∧ al (size p) = true ∧ size p < c ∧ c < size p + 1 + fs.length
def HD (al : Nat → Bool) (bs : List (List Int)) (h : Nat) : Prop := h ∈ places 0 bs ∧ al h = true
def wd (R : List Int) (c : Nat) : Int := R.getD c 0
def tg (R : List Int) (c : Nat) : Nat := (wd R c / 2).toNat
open Classical in
noncomputable def ex1 (al : Nat → Bool) (bs : List (List Int)) (R : List Int) (a x c : Nat) : Ct :=
  if FA al bs c ∧ wd R c % 2 = 1 ∧ c < x then (if a ≤ tg R c ∨ tg R c < c then .hg (tg R c) else .pl (lk (qf al bs (tg R c)))) else .pl (wd R c)
open Classical in
noncomputable def ex2 (al : Nat → Bool) (bs : List (List Int)) (R : List Int) (a c : Nat) : Ct :=
  if FA al bs c ∧ wd R c % 2 = 1 then (if a ≤ tg R c ∧ tg R c < c then .hg (tg R c) else .pl (lk (qf al bs (tg R c)))) else .pl (wd R c)
section
variable {al : Nat → Bool} {bs : List (List Int)} {R : List Int} {a x c : Nat}
theorem ex1_in (F : FA al bs c) (o : wd R c % 2 = 1) (l : c < x) : ex1 al bs R a x c = if a ≤ tg R c ∨ tg R c < c then .hg (tg R c) else .pl (lk (qf al bs (tg R c))) := by
  unfold ex1
  rw [if_pos ⟨F, o, l⟩]
theorem ex1_hg (F : FA al bs c) (o : wd R c % 2 = 1) (l : c < x) (h : a ≤ tg R c ∨ tg R c < c) : ex1 al bs R a x c = .hg (tg R c) := by
  rw [ex1_in F o l, if_pos h]
theorem ex1_pl (F : FA al bs c) (o : wd R c % 2 = 1) (l : c < x) (h : ¬ (a ≤ tg R c ∨ tg R c < c)) : ex1 al bs R a x c = .pl (lk (qf al bs (tg R c))) := by
  rw [ex1_in F o l, if_neg h]
theorem ex1_out (h : ¬ (FA al bs c ∧ wd R c % 2 = 1 ∧ c < x)) : ex1 al bs R a x c = .pl (wd R c) := by
  unfold ex1
  rw [if_neg h]
theorem ex2_hg (F : FA al bs c) (o : wd R c % 2 = 1) (h : a ≤ tg R c ∧ tg R c < c) : ex2 al bs R a c = .hg (tg R c) := by
  unfold ex2
  rw [if_pos ⟨F, o⟩, if_pos h]
theorem ex2_pl (F : FA al bs c) (o : wd R c % 2 = 1) (h : ¬ (a ≤ tg R c ∧ tg R c < c)) : ex2 al bs R a c = .pl (lk (qf al bs (tg R c))) := by
  unfold ex2
  rw [if_pos ⟨F, o⟩, if_neg h]
theorem ex2_out (h : ¬ (FA al bs c ∧ wd R c % 2 = 1)) : ex2 al bs R a c = .pl (wd R c) := by
  unfold ex2
  rw [if_neg h]
end
/-- the row that the passes begin with -/
def rowM (al : Nat → Bool) (bs : List (List Int)) (sp : List Int) : List Int := mflat al 0 bs ++ sp
theorem rowM_length {al : Nat → Bool} {bs : List (List Int)} {sp : List Int} : (rowM al bs sp).length = size bs + sp.length := by
  unfold rowM
  rw [List.length_append, mflat_length]
theorem wd_of {R : List Int} {c : Nat} {x : Int} (h : R[c]? = some x) : wd R c = x := by
  unfold wd
  rw [List.getD_eq_getElem?_getD, h]
  rfl
theorem some_wd {R : List Int} {c : Nat} (h : c < R.length) : R[c]? = some (wd R c) := by
  unfold wd
  rw [List.getD_eq_getElem?_getD, List.getElem?_eq_getElem h]
  rfl
section
variable {al : Nat → Bool} {bs p r : List (List Int)} {fs sp : List Int}
theorem wd_head (e : bs = p ++ fs :: r) : wd (rowM al bs sp) (size p) = 4 * (fs.length : Int) + if al (size p) then 2 else 0 := by
  subst e
  exact wd_of row_head
theorem wd_field (e : bs = p ++ fs :: r) {f : Nat} (hf : f < fs.length) : fs[f]? = some (wd (rowM al bs sp) (size p + 1 + f)) := by
  subst e
  rw [← row_field (M := al) (sp := sp) (p := p) (r := r) hf]
  exact some_wd (by
    show _ < (rowM al _ sp).length
    rw [rowM_length, size_append]
    show _ < _ + (1 + fs.length + size r) + _
    omega)
theorem size_mid (e : bs = p ++ fs :: r) : size bs = size p + 1 + fs.length + size r := by
  rw [e, size_append]
  show size p + (1 + fs.length + size r) = _
  omega
/-- no head lies among the fields of a box -/
theorem no_head (e : bs = p ++ fs :: r) {c : Nat} (h1 : size p < c) (h2 : c < size p + 1 + fs.length) : ¬ c ∈ places 0 bs := fun z => by
  rw [e] at z
  rcases places_split z with q | q | q <;> omega
/-- the target of a link in a box that stays -/
theorem FA.target (L : Live al bs) {c : Nat} (F : FA al bs c) (ho : wd (rowM al bs sp) c % 2 = 1) : wd (rowM al bs sp) c = lk (tg (rowM al bs sp) c) ∧ HD al bs (tg (rowM al bs sp) c) := by
  obtain ⟨p, fs, r, e, ha, h1, h2⟩ := F
  have hf : c - size p - 1 < fs.length := by omega
  have g := wd_field (al := al) (sp := sp) e hf
  rw [show size p + 1 + (c - size p - 1) = c by omega] at g
  obtain ⟨h, eh, hp, hl⟩ := L.ok p fs r _ e ha (List.mem_of_getElem? g) ho
  have et : tg (rowM al bs sp) c = h := by
    unfold tg
    rw [eh, lk_half]
    rfl
  rw [et]
  exact ⟨eh, hp, hl⟩
theorem FA.lt {c : Nat} (F : FA al bs c) : c < size bs := by
  obtain ⟨p, fs, r, e, ha, h1, h2⟩ := F
  rw [size_mid e]
  omega
theorem HD.lt {h : Nat} (z : HD al bs h) : h < size bs := by
  have := (places_ge z.1).2
  omega
theorem FA.not_head {c : Nat} (F : FA al bs c) : ¬ HD al bs c := fun z => by
  obtain ⟨p, fs, r, e, ha, h1, h2⟩ := F
  exact no_head e h1 h2 z.1
/-- a field of the box at hand -/
theorem FA.mid (e : bs = p ++ fs :: r) (ha : al (size p) = true) {c : Nat} (h1 : size p < c) (h2 : c < size p + 1 + fs.length) : FA al bs c := ⟨p, fs, r, e, ha, h1, h2⟩
/-- which box a cell is in -/
theorem FA.in_mid (e : bs = p ++ fs :: r) {c : Nat} (F : FA al bs c) (h1 : size p ≤ c) (h2 : c < size p + 1 + fs.length) : al (size p) = true ∧ size p < c := by
  obtain ⟨p', fs', r', e', ha, h3, h4⟩ := F
  -- both boxes hold c: they are one
  have k1 : size p' ∈ places 0 bs := by rw [e']; exact places_mid
  have k2 : size p ∈ places 0 bs := by rw [e]; exact places_mid
  rw [e] at k1
  rw [e'] at k2
  have : size p' = size p := by
    rcases places_split k1 with q | q | q
    · rcases places_split k2 with q' | q' | q' <;> omega
    · exact q
    · omega
  rw [← this]
  exact ⟨ha, h3⟩
/-! #### the first pass -/
theorem p1_start : CInv (rowM al bs sp) (size bs + sp.length) 0 (HD al bs) (wd (rowM al bs sp)) (ex1 al bs (rowM al bs sp) 0 0) := by
  have e0 : ∀ c, ex1 al bs (rowM al bs sp) 0 0 c = .pl (wd (rowM al bs sp) c) := fun c => by
    unfold ex1
    rw [if_neg fun z => absurd z.2.2 (Nat.not_lt_zero _)]
  refine ⟨rowM_length, fun h _ hh => ⟨[], by simp, fun c => ?_, ?_⟩, fun c x _ hc _ hx => ?_⟩
  · constructor
    · intro z; cases z
    · rintro ⟨_, _, q⟩
      rw [e0] at q
      cases q
  · show (rowM al bs sp)[h]? = some _
    exact some_wd (by rw [rowM_length]; have := hh.lt; omega)
  · rw [e0] at hx
    cases hx
    exact some_wd (by rw [rowM_length]; exact hc)
/-- the cell of a head tells whether its box stays -/
theorem head_stays {C : List Int} {N b : Nat} {ex : Nat → Ct} (k : CInv C N b (HD al bs) (wd (rowM al bs sp)) ex) (hN : size bs ≤ N) (e : bs = p ++ fs :: r) (hb : b ≤ size p) (hex : al (size p) = false → ex (size p) = .pl (wd (rowM al bs sp) (size p))) :
    ∃ x, C[size p]? = some x ∧ ((x % 2 = 1 ∨ x % 4 = 2) ↔ al (size p) = true) ∧ (al (size p) = false → x = 4 * (fs.length : Int)) := by
  have hp : size p ∈ places 0 bs := by rw [e]; exact places_mid
  have hl : size p < N := by have := size_mid e; omega
  cases ha : al (size p) with
  | true =>
    obtain ⟨cs, nd, hm, ch⟩ := k.ch (size p) hb ⟨hp, ha⟩
    cases cs with
    | nil =>
      have c0 : C[size p]? = some (wd (rowM al bs sp) (size p)) := ch
      rw [wd_head e, ha] at c0
      refine ⟨_, c0, ⟨fun _ => rfl, fun _ => .inr ?_⟩, fun z => nomatch z⟩
      rw [if_pos rfl]
      omega
    | cons c cs => exact ⟨_, ch.1, ⟨fun _ => rfl, fun _ => .inl (lk_odd c)⟩, fun z => nomatch z⟩
  | false =>
    have c0 := k.pl (size p) _ hb hl (fun z => by have := z.2; rw [ha] at this; cases this) (hex ha)
    have ew : wd (rowM al bs sp) (size p) = 4 * (fs.length : Int) := by rw [wd_head e, ha]; simp
    rw [ew] at c0
    refine ⟨_, c0, ⟨fun z => ?_, fun z => (nomatch z)⟩, fun _ => rfl⟩
    exfalso
    omega
theorem ex1_head (e : bs = p ++ fs :: r) {a x : Nat} {R : List Int} : ex1 al bs R a x (size p) = .pl (wd R (size p)) := by
  rw [ex1_out]
  rintro ⟨F, _⟩
  have := (F.in_mid e (Nat.le_refl _) (by omega)).2
  omega
/-- behind leading the head at hand -/
theorem p1_led {C C' : List Int} {cs : List Nat} (L : Live al bs) (e : bs = p ++ fs :: r) (ha : al (size p) = true)
    (k : CInv C (size bs + sp.length) 0 (HD al bs) (wd (rowM al bs sp)) (ex1 al bs (rowM al bs sp) (size p) (size p)))
    (hm : ∀ c, c ∈ cs ↔ (c < size bs + sp.length ∧ ¬ HD al bs c ∧ ex1 al bs (rowM al bs sp) (size p) (size p) c = .hg (size p)))
    (h : Led C (size p) cs (wd (rowM al bs sp) (size p)) (lk (ksize al 0 p)) C') :
    CInv C' (size bs + sp.length) 0 (HD al bs) (wd (rowM al bs sp)) (ex1 al bs (rowM al bs sp) (size p + 1 + fs.length) (size p + 1)) := by
  have hd : HD al bs (size p) := ⟨by rw [e]; exact places_mid, ha⟩
  refine (k.led hd hm h).congr fun c hc hn => ?_
  have q : qf al bs (size p) = ksize al 0 p := by rw [e]; exact qf_eq
  by_cases F : FA al bs c ∧ wd (rowM al bs sp) c % 2 = 1
  · obtain ⟨F, ho⟩ := F
    obtain ⟨_, ht⟩ := F.target (sp := sp) L ho
    have hs := places_split' e ht.1
    have nc : c ≠ size p := fun z => hn (by rw [z]; exact hd)
    by_cases c1 : c < size p
    · by_cases c2 : tg (rowM al bs sp) c = size p
      · rw [ex1_hg F ho c1 (.inl (by omega)), ex1_pl F ho (by omega) (by omega), if_pos (by rw [c2]), c2, q]
      · by_cases c3 : size p ≤ tg (rowM al bs sp) c ∨ tg (rowM al bs sp) c < c
        · rw [ex1_hg F ho c1 c3, ex1_hg F ho (by omega) (by omega), if_neg (fun z => c2 (Ct.hg.inj z))]
        · rw [ex1_pl F ho c1 c3, ex1_pl F ho (by omega) (by omega), if_neg (fun z => Ct.noConfusion z)]
    · rw [ex1_out (fun z => c1 z.2.2), ex1_out (by rintro ⟨_, _, z⟩; omega), if_neg (fun z => Ct.noConfusion z)]
  · rw [ex1_out (fun z => F ⟨z.1, z.2.1⟩), ex1_out (fun z => F ⟨z.1, z.2.1⟩), if_neg (fun z => Ct.noConfusion z)]
/-- the word of a field that is not yet hung up -/
theorem p1_cell {C : List Int} {x a : Nat} (e : bs = p ++ fs :: r) (k : CInv C (size bs + sp.length) 0 (HD al bs) (wd (rowM al bs sp)) (ex1 al bs (rowM al bs sp) a x)) (h1 : size p < x) (h2 : x < size p + 1 + fs.length) : C[x]? = some (wd (rowM al bs sp) x) := by
  refine k.pl x _ (Nat.zero_le _) (by have := size_mid e; omega) (fun z => no_head e h1 h2 z.1) ?_
  rw [ex1_out fun z => absurd z.2.2 (Nat.lt_irrefl _)]
/-- a field that is no link is passed -/
theorem p1_skip {C : List Int} {x a : Nat} (k : CInv C (size bs + sp.length) 0 (HD al bs) (wd (rowM al bs sp)) (ex1 al bs (rowM al bs sp) a x)) (h : ¬ wd (rowM al bs sp) x % 2 = 1) :
    CInv C (size bs + sp.length) 0 (HD al bs) (wd (rowM al bs sp)) (ex1 al bs (rowM al bs sp) a (x + 1)) := k.congr fun c hc hn => by
  by_cases F : FA al bs c ∧ wd (rowM al bs sp) c % 2 = 1 ∧ c < x
  · rw [ex1_in F.1 F.2.1 F.2.2, ex1_in F.1 F.2.1 (by omega)]
  · rw [ex1_out F, ex1_out]
    rintro ⟨f, o, l⟩
    by_cases z : c = x
    · rw [z] at o; exact h o
    · exact F ⟨f, o, by omega⟩
/-- a field that is a link is hung up -/
theorem p1_hung {C : List Int} {x : Nat} (L : Live al bs) (e : bs = p ++ fs :: r) (ha : al (size p) = true) (k : CInv C (size bs + sp.length) 0 (HD al bs) (wd (rowM al bs sp)) (ex1 al bs (rowM al bs sp) (size p + 1 + fs.length) x))
    (h1 : size p < x) (h2 : x < size p + 1 + fs.length) (h : wd (rowM al bs sp) x % 2 = 1) :
    wd (rowM al bs sp) x = lk (tg (rowM al bs sp) x) ∧ tg (rowM al bs sp) x < size bs + sp.length ∧
    CInv (hungR C x (tg (rowM al bs sp) x)) (size bs + sp.length) 0 (HD al bs) (wd (rowM al bs sp)) (ex1 al bs (rowM al bs sp) (size p + 1 + fs.length) (x + 1)) := by
  have F : FA al bs x := .mid e ha h1 h2
  obtain ⟨ew, ht⟩ := F.target (sp := sp) L h
  have hl := ht.lt
  have hs := places_split' e ht.1
  refine ⟨ew, by omega, (k.hung (Nat.zero_le _) ht (by have := F.lt; omega) F.not_head ?_ (by omega)).congr fun c hc hn => ?_⟩
  · rw [ex1_out (fun z => absurd z.2.2 (Nat.lt_irrefl _)), ← ew]
  · by_cases z : c = x
    · subst z
      rw [if_pos rfl, ex1_hg F h (by omega) (by omega)]
    · rw [if_neg z]
      by_cases G : FA al bs c ∧ wd (rowM al bs sp) c % 2 = 1 ∧ c < x
      · rw [ex1_in G.1 G.2.1 G.2.2, ex1_in G.1 G.2.1 (by omega)]
      · rw [ex1_out G, ex1_out]
        rintro ⟨f, o, l⟩
        exact G ⟨f, o, by omega⟩
/-- a box that goes is passed -/
theorem p1_dead {C : List Int} (L : Live al bs) (e : bs = p ++ fs :: r) (ha : al (size p) = false) (k : CInv C (size bs + sp.length) 0 (HD al bs) (wd (rowM al bs sp)) (ex1 al bs (rowM al bs sp) (size p) (size p))) :
    CInv C (size bs + sp.length) 0 (HD al bs) (wd (rowM al bs sp)) (ex1 al bs (rowM al bs sp) (size p + 1 + fs.length) (size p + 1 + fs.length)) := k.congr fun c hc hn => by
  by_cases F : FA al bs c ∧ wd (rowM al bs sp) c % 2 = 1
  · obtain ⟨F, ho⟩ := F
    obtain ⟨_, ht⟩ := F.target (sp := sp) L ho
    have nt : tg (rowM al bs sp) c ≠ size p := fun z => by
      have := ht.2
      rw [z, ha] at this
      cases this
    have hs := places_split' e ht.1
    by_cases c1 : c < size p
    · by_cases c2 : size p ≤ tg (rowM al bs sp) c ∨ tg (rowM al bs sp) c < c
      · rw [ex1_hg F ho c1 c2, ex1_hg F ho (by omega) (by omega)]
      · rw [ex1_pl F ho c1 c2, ex1_pl F ho (by omega) (by omega)]
    · have c2 : ¬ c < size p + 1 + fs.length := fun z => by
        have := (F.in_mid e (by omega) z).1
        rw [ha] at this
        cases this
      rw [ex1_out (fun z => c1 z.2.2), ex1_out (fun z => c2 z.2.2)]
  · rw [ex1_out (fun z => F ⟨z.1, z.2.1⟩), ex1_out (fun z => F ⟨z.1, z.2.1⟩)]
/-- the first pass is through, the second begins -/
theorem p1_end {C : List Int} (L : Live al bs) (k : CInv C (size bs + sp.length) 0 (HD al bs) (wd (rowM al bs sp)) (ex1 al bs (rowM al bs sp) (size bs) (size bs))) :
    CInv C (size bs + sp.length) 0 (HD al bs) (wd (rowM al bs sp)) (ex2 al bs (rowM al bs sp) 0) := k.congr fun c hc hn => by
  by_cases F : FA al bs c ∧ wd (rowM al bs sp) c % 2 = 1
  · obtain ⟨F, ho⟩ := F
    obtain ⟨_, ht⟩ := F.target (sp := sp) L ho
    have h1 := ht.lt
    by_cases c2 : tg (rowM al bs sp) c < c
    · rw [ex1_hg F ho F.lt (.inr c2), ex2_hg F ho ⟨Nat.zero_le _, c2⟩]
    · rw [ex1_pl F ho F.lt (by omega), ex2_pl F ho (by omega)]
  · rw [ex1_out (fun z => F ⟨z.1, z.2.1⟩), ex2_out F]
/-! #### the second pass -/
theorem ex2_head (e : bs = p ++ fs :: r) {a : Nat} {R : List Int} : ex2 al bs R a (size p) = .pl (wd R (size p)) := by
  rw [ex2_out]
  rintro ⟨F, _⟩
  have := (F.in_mid e (Nat.le_refl _) (by omega)).2
  omega
theorem p2_led {C C' : List Int} {cs : List Nat} (L : Live al bs) (e : bs = p ++ fs :: r) (ha : al (size p) = true)
    (k : CInv C (size bs + sp.length) (size p) (HD al bs) (wd (rowM al bs sp)) (ex2 al bs (rowM al bs sp) (size p)))
    (hm : ∀ c, c ∈ cs ↔ (c < size bs + sp.length ∧ ¬ HD al bs c ∧ ex2 al bs (rowM al bs sp) (size p) c = .hg (size p)))
    (h : Led C (size p) cs (wd (rowM al bs sp) (size p)) (lk (ksize al 0 p)) C') :
    CInv C' (size bs + sp.length) (size p) (HD al bs) (wd (rowM al bs sp)) (ex2 al bs (rowM al bs sp) (size p + 1 + fs.length)) := by
  have hd : HD al bs (size p) := ⟨by rw [e]; exact places_mid, ha⟩
  refine (k.led hd hm h).congr fun c hc hn => ?_
  have q : qf al bs (size p) = ksize al 0 p := by rw [e]; exact qf_eq
  by_cases F : FA al bs c ∧ wd (rowM al bs sp) c % 2 = 1
  · obtain ⟨_, ht⟩ := F.1.target (sp := sp) L F.2
    have hs := places_split' e ht.1
    by_cases c3 : size p ≤ tg (rowM al bs sp) c ∧ tg (rowM al bs sp) c < c
    · by_cases c2 : tg (rowM al bs sp) c = size p
      · rw [ex2_hg F.1 F.2 c3, ex2_pl F.1 F.2 (by omega), if_pos (by rw [c2]), c2, q]
      · rw [ex2_hg F.1 F.2 c3, ex2_hg F.1 F.2 (by omega), if_neg (fun z => c2 (Ct.hg.inj z))]
    · rw [ex2_pl F.1 F.2 c3, ex2_pl F.1 F.2 (by omega), if_neg (fun z => Ct.noConfusion z)]
  · rw [ex2_out F, ex2_out F, if_neg (fun z => Ct.noConfusion z)]
/-- a field of the box at hand, once its head has been led -/
theorem p2_cell {C : List Int} (L : Live al bs) (e : bs = p ++ fs :: r) (ha : al (size p) = true) (k : CInv C (size bs + sp.length) (size p) (HD al bs) (wd (rowM al bs sp)) (ex2 al bs (rowM al bs sp) (size p + 1 + fs.length)))
    {f : Nat} (hf : f < fs.length) : C[size p + 1 + f]? = (fs[f]?).map (relink (qf al bs)) := by
  have F : FA al bs (size p + 1 + f) := .mid e ha (by omega) (by omega)
  rw [wd_field (al := al) (sp := sp) e hf]
  refine k.pl _ _ (by omega) (by have := F.lt; omega) F.not_head ?_
  unfold relink
  by_cases ho : wd (rowM al bs sp) (size p + 1 + f) % 2 = 1
  · obtain ⟨ew, ht⟩ := F.target (sp := sp) L ho
    have hs := places_split' e ht.1
    rw [ex2_pl F ho (by omega), if_pos ho]
    rfl
  · rw [ex2_out (fun z => ho z.2), if_neg ho]
theorem p2_below {C C' : List Int} {b b' : Nat} (k : CInv C (size bs + sp.length) b (HD al bs) (wd (rowM al bs sp)) (ex2 al bs (rowM al bs sp) b')) (hb : b ≤ b') (hl : C'.length = C.length) (hs : ∀ i, b' ≤ i → C'[i]? = C[i]?) :
    CInv C' (size bs + sp.length) b' (HD al bs) (wd (rowM al bs sp)) (ex2 al bs (rowM al bs sp) b') := k.below hb hl hs fun c h hc hn hx hh => by
  unfold ex2 at hx
  split at hx
  · split at hx
    · rename_i z
      cases hx
      omega
    · cases hx
  · cases hx
theorem p2_dead {C : List Int} (L : Live al bs) (e : bs = p ++ fs :: r) (ha : al (size p) = false) (k : CInv C (size bs + sp.length) (size p) (HD al bs) (wd (rowM al bs sp)) (ex2 al bs (rowM al bs sp) (size p))) :
    CInv C (size bs + sp.length) (size p + 1 + fs.length) (HD al bs) (wd (rowM al bs sp)) (ex2 al bs (rowM al bs sp) (size p + 1 + fs.length)) := by
  refine p2_below (k.congr fun c hc hn => ?_) (by omega) rfl fun _ _ => rfl
  by_cases F : FA al bs c ∧ wd (rowM al bs sp) c % 2 = 1
  · obtain ⟨_, ht⟩ := F.1.target (sp := sp) L F.2
    have nt : tg (rowM al bs sp) c ≠ size p := fun z => by
      have := ht.2
      rw [z, ha] at this
      cases this
    have hs := places_split' e ht.1
    by_cases c2 : size p ≤ tg (rowM al bs sp) c ∧ tg (rowM al bs sp) c < c
    · rw [ex2_hg F.1 F.2 c2, ex2_hg F.1 F.2 (by omega)]
    · rw [ex2_pl F.1 F.2 c2, ex2_pl F.1 F.2 (by omega)]
  · rw [ex2_out F, ex2_out F]
/-- the cells of a chain lie behind the head, at the second pass -/
theorem p2_chain {b c h : Nat} (hx : ex2 al bs (rowM al bs sp) b c = .hg h) : b ≤ h ∧ h < c := by
  unfold ex2 at hx
  split at hx
  · split at hx
    · rename_i z
      cases hx
      exact z
    · cases hx
  · cases hx
end
end TS
namespace TS
/-! ### marking -/
/-- every link of a box leads to a box -/
def Valid (bs : List (List Int)) : Prop := ∀ fs ∈ bs, ∀ x ∈ fs, x % 2 = 1 → ∃ h, x = lk h ∧ h ∈ places 0 bs
/-- the boxes that can be come to, by their places -/
inductive Reach (bs : List (List Int)) : Nat → Prop
  | door : Reach bs 0
  | step {p r : List (List Int)} {fs : List Int} {h : Nat} (e : bs = p ++ fs :: r) (a : Reach bs (size p)) (m : lk h ∈ fs) (k : h ∈ places 0 bs) : Reach bs h
open Classical in
noncomputable def alive (bs : List (List Int)) (h : Nat) : Bool := decide (Reach bs h)
theorem alive_iff {bs : List (List Int)} {h : Nat} : alive bs h = true ↔ Reach bs h := by unfold alive; simp
theorem Live.of {bs : List (List Int)} (v : Valid bs) : Live (alive bs) bs := ⟨fun p fs r x e ha hx ho => by
  obtain ⟨h, eh, hp⟩ := v fs (by rw [e]; simp) x hx ho
  exact ⟨h, eh, hp, alive_iff.mpr (.step e (alive_iff.mp ha) (eh ▸ hx) hp)⟩⟩
def mkd (M : Nat → Bool) (h : Nat) : Nat → Bool := fun x => x == h || M x
theorem mkd_self {M : Nat → Bool} {h : Nat} : mkd M h h = true := by simp [mkd]
theorem mkd_of {M : Nat → Bool} {h x : Nat} (e : M x = true) : mkd M h x = true := by simp [mkd, e]
theorem mkd_or {M : Nat → Bool} {h x : Nat} (e : mkd M h x = true) : x = h ∨ M x = true := by simpa [mkd] using e
theorem mflat_congr {M M' : Nat → Bool} : ∀ {a : Nat} {bs : List (List Int)}, (∀ h, a ≤ h → M h = M' h) → mflat M a bs = mflat M' a bs
  | _, [], _ => rfl
  | a, fs :: r, e => by
    show _ :: (fs ++ mflat M (a + 1 + fs.length) r) = _ :: (fs ++ mflat M' (a + 1 + fs.length) r)
    rw [e a (Nat.le_refl a), mflat_congr fun h hh => e h (by omega)]
theorem mflat_below {M M' : Nat → Bool} {bs : List (List Int)} : ∀ {a : Nat}, (∀ h, h ∈ places a bs → M h = M' h) → mflat M a bs = mflat M' a bs := by
  induction bs with
  | nil => intro a _; rfl
  | cons fs r ih =>
    intro a e
    show _ :: (fs ++ mflat M (a + 1 + fs.length) r) = _ :: (fs ++ mflat M' (a + 1 + fs.length) r)
    rw [e a List.mem_cons_self, ih fun h hh => e h (List.mem_cons_of_mem _ hh)]
/-- a head is marked -/
theorem row_mark {M : Nat → Bool} {p r : List (List Int)} {fs sp : List Int} : (mflat M 0 (p ++ fs :: r) ++ sp).set (size p) (4 * (fs.length : Int) + 2) = mflat (mkd M (size p)) 0 (p ++ fs :: r) ++ sp := by
  rw [mflat_append, mflat_append, Nat.zero_add]
  have e1 : mflat (mkd M (size p)) 0 p = mflat M 0 p := mflat_below fun h hh => by
    have := (places_ge hh).2
    have nh : (h == size p) = false := by simp; omega
    unfold mkd
    rw [nh]
    rfl
  have e2 : mflat (mkd M (size p)) (size p) (fs :: r) = (4 * (fs.length : Int) + 2) :: (fs ++ mflat M (size p + 1 + fs.length) r) := by
    show (4 * (fs.length : Int) + if mkd M (size p) (size p) then 2 else 0) :: (fs ++ mflat (mkd M (size p)) (size p + 1 + fs.length) r) = _
    rw [mkd_self, if_pos rfl]
    congr 2
    refine mflat_below fun h hh => ?_
    have := (places_ge hh).1
    have nh : (h == size p) = false := by simp; omega
    unfold mkd
    rw [nh]
    rfl
  rw [e1, e2]
  show (mflat M 0 p ++ ((4 * (fs.length : Int) + if M (size p) then 2 else 0) :: (fs ++ mflat M (size p + 1 + fs.length) r)) ++ sp).set (size p) _ = _
  rw [List.append_assoc, List.append_assoc, List.set_append_right _ _ (by rw [mflat_length]; exact Nat.le_refl _), mflat_length, Nat.sub_self]
  rfl
/-- how many heads are not marked -/
def unm (M : Nat → Bool) : List Nat → Nat
  | [] => 0
  | h :: r => (if M h then 0 else 1) + unm M r
theorem unm_le {M : Nat → Bool} {h : Nat} : ∀ l : List Nat, unm (mkd M h) l ≤ unm M l
  | [] => Nat.le_refl _
  | x :: r => by
    have ih := unm_le (M := M) (h := h) r
    show (if mkd M h x then 0 else 1) + unm (mkd M h) r ≤ (if M x then 0 else 1) + unm M r
    by_cases e : M x = true
    · rw [mkd_of e, e]
      simpa using ih
    · rw [if_neg e]
      split <;> omega
theorem unm_lt {M : Nat → Bool} {h : Nat} (e : M h = false) : ∀ {l : List Nat}, h ∈ l → unm (mkd M h) l + 1 ≤ unm M l
  | [], m => nomatch m
  | x :: r, m => by
    show (if mkd M h x then 0 else 1) + unm (mkd M h) r + 1 ≤ (if M x then 0 else 1) + unm M r
    by_cases hx : x = h
    · subst hx
      rw [mkd_self, e]
      have := unm_le (M := M) (h := x) r
      simp
      omega
    · have ih := unm_lt e ((List.mem_cons.mp m).resolve_left (Ne.symm hx))
      have e2 : mkd M h x = M x := by
        unfold mkd
        have : (x == h) = false := by simpa using hx
        rw [this]
        rfl
      rw [e2]
      omega
/-- the state of marking: M the marks, W the heads that wait, X a head that is being looked at -/
structure Mk (bs : List (List Int)) (M : Nat → Bool) (W : List Nat) (X : Nat → Prop) : Prop where
  door : M 0 = true
  re : ∀ h, M h = true → h ∈ places 0 bs ∧ Reach bs h
  wait : ∀ h ∈ W, M h = true
  cl : ∀ p fs r h, bs = p ++ fs :: r → M (size p) = true → size p ∉ W → ¬ X (size p) → lk h ∈ fs → M h = true
/-- the links of the first f fields of the box at hand are marked -/
def Fd (fs : List Int) (M : Nat → Bool) (f : Nat) : Prop := ∀ i h, i < f → fs[i]? = some (lk h) → M h = true
theorem Mk.start {bs : List (List Int)} (h0 : 0 ∈ places 0 bs) : Mk bs (mkd (fun _ => false) 0) [0] (fun _ => False) :=
  ⟨mkd_self, fun h e => by
    have : h = 0 := by simpa [mkd] using e
    subst this
    exact ⟨h0, .door⟩, fun h hh => by
    have : h = 0 := by simpa using hh
    subst this
    exact mkd_self, fun p fs r h e hm hw _ _ => by
    have : size p = 0 := by simpa [mkd] using hm
    exact absurd (by simp [this]) hw⟩
/-- a head is taken from those that wait -/
theorem Mk.pop {bs : List (List Int)} {M : Nat → Bool} {W : List Nat} {a : Nat} (k : Mk bs M (W ++ [a]) (fun _ => False)) : Mk bs M W (fun x => x = a) :=
  ⟨k.door, k.re, fun h hh => k.wait h (List.mem_append_left _ hh), fun p fs r h e hm hw hx => k.cl p fs r h e hm (fun z => by
    rcases List.mem_append.mp z with z | z
    · exact hw z
    · exact hx (by simpa using z)) (fun z => z)⟩
/-- a head is marked and waits -/
theorem Mk.push {bs p r : List (List Int)} {fs : List Int} {M : Nat → Bool} {W : List Nat} {X : Nat → Prop} {g : Nat} (k : Mk bs M W X) (e : bs = p ++ fs :: r) (ha : M (size p) = true) (hg : lk g ∈ fs) (hp : g ∈ places 0 bs) : Mk bs (mkd M g) (W ++ [g]) X := by
  refine ⟨mkd_of k.door, fun h hh => ?_, fun h hh => ?_, fun p' fs' r' h e' hm hw hx hl => ?_⟩
  · rcases mkd_or hh with rfl | hh
    · exact ⟨hp, .step e (k.re _ ha).2 hg hp⟩
    · exact k.re h hh
  · rcases List.mem_append.mp hh with z | z
    · exact mkd_of (k.wait h z)
    · have : h = g := by simpa using z
      subst this
      exact mkd_self
  · rcases mkd_or hm with z | z
    · exact absurd (by rw [z]; simp) hw
    · exact mkd_of (k.cl p' fs' r' h e' z (fun q => hw (List.mem_append_left _ q)) hx hl)
/-- the box at hand is done -/
theorem Mk.done {bs p r : List (List Int)} {fs : List Int} {M : Nat → Bool} {W : List Nat} (k : Mk bs M W (fun x => x = size p)) (e : bs = p ++ fs :: r) (hf : Fd fs M fs.length) : Mk bs M W (fun _ => False) :=
  ⟨k.door, k.re, k.wait, fun p' fs' r' h e' hm hw hx hl => by
    by_cases z : size p' = size p
    · obtain ⟨_, e2, _⟩ := split_uniq (e'.symm.trans e) z
      subst e2
      obtain ⟨i, hi, ei⟩ := List.mem_iff_getElem.mp hl
      exact hf i h hi (by rw [List.getElem?_eq_getElem hi, ei])
    · exact k.cl p' fs' r' h e' hm hw z hl⟩
/-- where none waits, just the boxes that can be come to are marked -/
theorem Mk.all {bs : List (List Int)} {M : Nat → Bool} (k : Mk bs M [] (fun _ => False)) (h : Nat) : M h = alive bs h := by
  have go : Reach bs h → M h = true := fun r => by
    induction r with
    | door => exact k.door
    | step e _ m _ ih => exact k.cl _ _ _ _ e ih (fun z => nomatch z) (fun z => z) m
  cases e : M h with
  | true => exact (alive_iff.mpr (k.re h e).2).symm
  | false =>
    cases e2 : alive bs h with
    | true =>
      have := go (alive_iff.mp e2)
      rw [e] at this
      cases this
    | false => rfl
end TS
namespace TS
/-! ### the law's own boxes -/
inductive Th where
  | num (n : Int) | box (k : Nat)
  deriving DecidableEq
/-- the word of a thing, g tells where the boxes are -/
def wordT (g : Nat → Int) : Th → Int
  | .num n => 2 * n
  | .box k => 2 * g k + 1
def bsOf (g : Nat → Int) (bxs : List (List Th)) : List (List Int) := bxs.map fun fs => fs.map (wordT g)
def sizeT : List (List Th) → Nat
  | [] => 0
  | fs :: r => 1 + fs.length + sizeT r
def placesT : Nat → List (List Th) → List Nat
  | _, [] => []
  | a, fs :: r => a :: placesT (a + 1 + fs.length) r
/-- the place of a box -/
def plT (bxs : List (List Th)) (k : Nat) : Nat := sizeT (bxs.take k)
theorem size_bsOf (g : Nat → Int) : ∀ bxs : List (List Th), size (bsOf g bxs) = sizeT bxs
  | [] => rfl
  | fs :: r => by
    show 1 + (fs.map (wordT g)).length + size (bsOf g r) = 1 + fs.length + sizeT r
    rw [List.length_map, size_bsOf g r]
theorem places_bsOf (g : Nat → Int) : ∀ (a : Nat) (bxs : List (List Th)), places a (bsOf g bxs) = placesT a bxs
  | _, [] => rfl
  | a, fs :: r => by
    show a :: places (a + 1 + (fs.map (wordT g)).length) (bsOf g r) = a :: placesT (a + 1 + fs.length) r
    rw [List.length_map, places_bsOf g _ r]
theorem placesT_len : ∀ (a : Nat) (bxs : List (List Th)), (placesT a bxs).length = bxs.length
  | _, [] => rfl
  | a, fs :: r => by
    show (placesT (a + 1 + fs.length) r).length + 1 = r.length + 1
    rw [placesT_len]
theorem placesT_get : ∀ (a : Nat) (bxs : List (List Th)) (k : Nat), k < bxs.length → (placesT a bxs)[k]? = some (a + plT bxs k)
  | _, [], k, h => absurd h (Nat.not_lt_zero _)
  | a, fs :: r, 0, _ => rfl
  | a, fs :: r, k + 1, h => by
    show (placesT (a + 1 + fs.length) r)[k]? = some (a + (1 + fs.length + plT r k))
    rw [placesT_get _ r k (by simpa using h)]
    congr 1
    omega
theorem placesT_get0 {bxs : List (List Th)} {k : Nat} (h : k < bxs.length) : (placesT 0 bxs)[k]? = some (plT bxs k) := by
  rw [placesT_get 0 bxs k h, Nat.zero_add]
theorem placesT_mem {bxs : List (List Th)} {h : Nat} (m : h ∈ placesT 0 bxs) : ∃ k, k < bxs.length ∧ h = plT bxs k := by
  obtain ⟨k, hk, e⟩ := List.mem_iff_getElem.mp m
  have hk' : k < bxs.length := by rw [← placesT_len 0 bxs]; exact hk
  have := placesT_get0 hk'
  rw [List.getElem?_eq_getElem hk] at this
  exact ⟨k, hk', by rw [← e]; exact Option.some.inj this⟩
theorem sizeT_append : ∀ (p r : List (List Th)), sizeT (p ++ r) = sizeT p + sizeT r
  | [], r => by simp [sizeT]
  | fs :: p, r => by
    show 1 + fs.length + sizeT (p ++ r) = 1 + fs.length + sizeT p + sizeT r
    rw [sizeT_append p r]
    omega
theorem plT_succ {bxs : List (List Th)} {k : Nat} {fs : List Th} (h : bxs[k]? = some fs) : plT bxs (k + 1) = plT bxs k + 1 + fs.length := by
  unfold plT
  rw [List.take_add_one, h, sizeT_append]
  show _ + (1 + fs.length + 0) = _
  omega
theorem plT_mono {bxs : List (List Th)} {j k : Nat} (h : j ≤ k) : plT bxs j ≤ plT bxs k := by
  unfold plT
  have e : bxs.take k = bxs.take j ++ (bxs.take k).drop j := by
    conv => lhs; rw [← List.take_append_drop j (bxs.take k)]
    rw [List.take_take, Nat.min_eq_left h]
  rw [e, sizeT_append]
  omega
theorem plT_lt {bxs : List (List Th)} {j k : Nat} (h : j < k) (hj : j < bxs.length) : plT bxs j < plT bxs k := by
  have h1 := plT_succ (List.getElem?_eq_getElem hj)
  have h2 := plT_mono (bxs := bxs) (show j + 1 ≤ k from h)
  omega
theorem plT_inj {bxs : List (List Th)} {j k : Nat} (hj : j < bxs.length) (hk : k < bxs.length) (e : plT bxs j = plT bxs k) : j = k := by
  rcases Nat.lt_trichotomy j k with h | h | h
  · have := plT_lt h hj; omega
  · exact h
  · have := plT_lt h hk; omega
theorem plT_zero {bxs : List (List Th)} : plT bxs 0 = 0 := rfl
theorem plT_top {bxs : List (List Th)} : plT bxs bxs.length = sizeT bxs := by
  unfold plT
  rw [List.take_length]
/-- links lead to boxes -/
def VB (bxs : List (List Th)) : Prop := ∀ fs ∈ bxs, ∀ k, Th.box k ∈ fs → k < bxs.length
def pg (bxs : List (List Th)) (k : Nat) : Int := (plT bxs k : Int)
theorem VB.valid {bxs : List (List Th)} (v : VB bxs) : Valid (bsOf (pg bxs) bxs) := by
  intro fs hf x hx ho
  obtain ⟨gs, hg, rfl⟩ := List.mem_map.mp hf
  obtain ⟨t, ht, rfl⟩ := List.mem_map.mp hx
  cases t with
  | num n =>
    exfalso
    have : (2 * n) % 2 = 1 := ho
    omega
  | box k =>
    have hk := v gs hg k ht
    refine ⟨plT bxs k, rfl, ?_⟩
    rw [places_bsOf]
    exact List.mem_of_getElem? (placesT_get0 hk)
/-- the boxes that can be come to, by their numbers -/
inductive RI (bxs : List (List Th)) : Nat → Prop
  | door : RI bxs 0
  | step {i k : Nat} {fs : List Th} (a : RI bxs i) (e : bxs[i]? = some fs) (m : Th.box k ∈ fs) : RI bxs k
open Classical in
noncomputable def aliveT (bxs : List (List Th)) (k : Nat) : Bool := decide (RI bxs k)
theorem aliveT_iff {bxs : List (List Th)} {k : Nat} : aliveT bxs k = true ↔ RI bxs k := by unfold aliveT; simp
theorem RI.lt {bxs : List (List Th)} (v : VB bxs) (h0 : 0 < bxs.length) {k : Nat} (r : RI bxs k) : k < bxs.length := by
  cases r with
  | door => exact h0
  | step a e m => exact v _ (List.mem_of_getElem? e) _ m
noncomputable def keptT (bxs : List (List Th)) : List Nat := (List.range bxs.length).filter (aliveT bxs)
theorem bsOf_get {g : Nat → Int} {bxs : List (List Th)} {k : Nat} {fs : List Th} (h : bxs[k]? = some fs) : ∃ p r, bsOf g bxs = p ++ fs.map (wordT g) :: r ∧ size p = plT bxs k := by
  have hk := (List.getElem?_eq_some_iff.mp h).1
  refine ⟨bsOf g (bxs.take k), bsOf g (bxs.drop (k + 1)), ?_, by rw [size_bsOf]; rfl⟩
  have e : bxs = bxs.take k ++ fs :: bxs.drop (k + 1) := by
    have h1 := List.take_append_drop k bxs
    have h2 : bxs.drop k = fs :: bxs.drop (k + 1) := by
      rw [List.drop_eq_getElem_cons hk]
      rw [List.getElem?_eq_getElem hk] at h
      rw [Option.some.inj h]
    rw [h2] at h1
    exact h1.symm
  conv => lhs; rw [e]
  unfold bsOf
  rw [List.map_append, List.map_cons]
theorem reach_of {bxs : List (List Th)} (v : VB bxs) (h0 : 0 < bxs.length) {k : Nat} (r : RI bxs k) : Reach (bsOf (pg bxs) bxs) (plT bxs k) := by
  induction r with
  | door => exact .door
  | @step i k fs a e m ih =>
    obtain ⟨p, r, eb, es⟩ := bsOf_get (g := pg bxs) e
    refine .step eb (by rw [es]; exact ih) (List.mem_map.mpr ⟨_, m, rfl⟩) ?_
    rw [places_bsOf]
    exact List.mem_of_getElem? (placesT_get0 (v fs (List.mem_of_getElem? e) k m))
theorem of_reach {bxs : List (List Th)} (v : VB bxs) (h0 : 0 < bxs.length) {h : Nat} (r : Reach (bsOf (pg bxs) bxs) h) : ∃ k, k < bxs.length ∧ h = plT bxs k ∧ RI bxs k := by
  induction r with
  | door => exact ⟨0, h0, rfl, .door⟩
  | @step p r fs h e a m kk ih =>
    obtain ⟨i, hi, ei, ri⟩ := ih
    rw [places_bsOf] at kk
    obtain ⟨k, hk, ek⟩ := placesT_mem kk
    obtain ⟨p', r', eb, es⟩ := bsOf_get (g := pg bxs) (List.getElem?_eq_getElem hi)
    obtain ⟨_, e2, _⟩ := split_uniq (e.symm.trans eb) (by rw [es]; exact ei)
    rw [e2] at m
    obtain ⟨t, ht, et⟩ := List.mem_map.mp m
    refine ⟨k, hk, ek, .step ri (List.getElem?_eq_getElem hi) (k := k) ?_⟩
    cases t with
    | num n =>
      exfalso
      have : 2 * n = lk h := et
      unfold lk at this
      omega
    | box j =>
      have e3 : 2 * (plT bxs j : Int) + 1 = lk h := et
      have hj : plT bxs j = plT bxs k := by
        rw [← ek]
        unfold lk at e3
        omega
      have := plT_inj (v _ (List.mem_of_getElem? (List.getElem?_eq_getElem hi)) j ht) hk hj
      rw [← this]
      exact ht
theorem alive_pl {bxs : List (List Th)} (v : VB bxs) (h0 : 0 < bxs.length) {k : Nat} (hk : k < bxs.length) : alive (bsOf (pg bxs) bxs) (plT bxs k) = aliveT bxs k := by
  cases e : aliveT bxs k with
  | true => exact alive_iff.mpr (reach_of v h0 (aliveT_iff.mp e))
  | false =>
    cases e2 : alive (bsOf (pg bxs) bxs) (plT bxs k) with
    | false => rfl
    | true =>
      obtain ⟨j, hj, ej, rj⟩ := of_reach v h0 (alive_iff.mp e2)
      have := plT_inj hk hj ej
      rw [this] at e
      rw [aliveT_iff.mpr rj] at e
      cases e
/-! ### sorted lists of numbers -/
theorem sorted_eq : ∀ {l m : List Nat}, l.Pairwise (· < ·) → m.Pairwise (· < ·) → (∀ x, x ∈ l ↔ x ∈ m) → l = m
  | [], [], _, _, _ => rfl
  | [], y :: m, _, _, e => nomatch (e y).mpr List.mem_cons_self
  | x :: l, [], _, _, e => nomatch (e x).mp List.mem_cons_self
  | x :: l, y :: m, h1, h2, e => by
    have a := List.pairwise_cons.mp h1
    have b := List.pairwise_cons.mp h2
    have exy : x = y := by
      rcases List.mem_cons.mp ((e x).mp List.mem_cons_self) with z | z
      · exact z
      · rcases List.mem_cons.mp ((e y).mpr List.mem_cons_self) with z' | z'
        · exact z'.symm
        · have := b.1 x z
          have := a.1 y z'
          omega
    subst exy
    rw [sorted_eq a.2 b.2 fun z => ?_]
    constructor
    · intro hz
      rcases List.mem_cons.mp ((e z).mp (List.mem_cons_of_mem _ hz)) with q | q
      · have := a.1 z hz
        omega
      · exact q
    · intro hz
      rcases List.mem_cons.mp ((e z).mpr (List.mem_cons_of_mem _ hz)) with q | q
      · have := b.1 z hz
        omega
      · exact q
theorem nodup_len : ∀ (m : Nat) (l : List Nat), l.Nodup → (∀ x ∈ l, x < m) → l.length ≤ m
  | 0, [], _, _ => Nat.le_refl _
  | 0, x :: l, _, h => absurd (h x List.mem_cons_self) (Nat.not_lt_zero _)
  | m + 1, l, nd, h => by
    by_cases e : m ∈ l
    · have h1 := nodup_len m (l.erase m) (nd.erase m) fun x hx => by
        have h2 := (nd.mem_erase_iff).mp hx
        have := h x h2.2
        omega
      rw [List.length_erase_of_mem e] at h1
      omega
    · have h1 := nodup_len m l nd fun x hx => by
        have := h x hx
        have : x ≠ m := fun z => e (z ▸ hx)
        omega
      omega
theorem keptT_sorted (bxs : List (List Th)) : (keptT bxs).Pairwise (· < ·) := by
  unfold keptT
  exact List.pairwise_lt_range.filter _
theorem keptT_mem {bxs : List (List Th)} (v : VB bxs) (h0 : 0 < bxs.length) {k : Nat} : k ∈ keptT bxs ↔ RI bxs k := by
  unfold keptT
  rw [List.mem_filter, List.mem_range, aliveT_iff]
  exact ⟨fun h => h.2, fun h => ⟨h.lt v h0, h⟩⟩
/-! ### the law's search -/
/-- the first t numbers of F are done, of the next one the boxes ahead of the j-th field -/
structure Bf (bxs : List (List Th)) (F : List Nat) (t : Nat) : Prop where
  nd : F.Nodup
  zero : 0 ∈ F
  re : ∀ k ∈ F, RI bxs k
  dn : ∀ i k0 fs k, i < t → F[i]? = some k0 → bxs[k0]? = some fs → Th.box k ∈ fs → k ∈ F
theorem Bf.start {bxs : List (List Th)} : Bf bxs [0] 0 := ⟨by simp, by simp, fun k hk => by
  have : k = 0 := by simpa using hk
  subst this
  exact .door, fun i _ _ _ h => absurd h (Nat.not_lt_zero _)⟩
theorem Bf.add {bxs : List (List Th)} {F : List Nat} {t k : Nat} (b : Bf bxs F t) (ht : t ≤ F.length) (nk : k ∉ F) (r : RI bxs k) : Bf bxs (F ++ [k]) t := by
  refine ⟨?_, List.mem_append_left _ b.zero, fun j hj => ?_, fun i k0 fs j hi e e2 m => ?_⟩
  · refine List.nodup_append.mpr ⟨b.nd, by simp, fun x hx y hy => ?_⟩
    have : y = k := by simpa using hy
    subst this
    intro z
    exact nk (z ▸ hx)
  · rcases List.mem_append.mp hj with z | z
    · exact b.re j z
    · have : j = k := by simpa using z
      subst this
      exact r
  · rw [List.getElem?_append_left (by omega)] at e
    exact List.mem_append_left _ (b.dn i k0 fs j hi e e2 m)
theorem Bf.next {bxs : List (List Th)} {F : List Nat} {t k0 : Nat} {fs : List Th} (b : Bf bxs F t) (e : F[t]? = some k0) (e2 : bxs[k0]? = some fs) (h : ∀ k, Th.box k ∈ fs → k ∈ F) : Bf bxs F (t + 1) :=
  ⟨b.nd, b.zero, b.re, fun i k1 gs k hi e3 e4 m => by
    by_cases z : i < t
    · exact b.dn i k1 gs k z e3 e4 m
    · have : i = t := by omega
      subst this
      rw [e] at e3
      cases Option.some.inj e3
      rw [e2] at e4
      cases Option.some.inj e4
      exact h k m⟩
theorem Bf.skip {bxs : List (List Th)} {F : List Nat} {t : Nat} (b : Bf bxs F t) (h : F.length ≤ t) : Bf bxs F (t + 1) :=
  ⟨b.nd, b.zero, b.re, fun i k1 gs k hi e3 e4 m => b.dn i k1 gs k (by have := (List.getElem?_eq_some_iff.mp e3).1; omega) e3 e4 m⟩
theorem Bf.all {bxs : List (List Th)} {F : List Nat} (v : VB bxs) (h0 : 0 < bxs.length) (b : Bf bxs F bxs.length) (k : Nat) : k ∈ F ↔ RI bxs k := by
  refine ⟨b.re k, fun r => ?_⟩
  have hl : F.length ≤ bxs.length := nodup_len _ _ b.nd fun x hx => (b.re x hx).lt v h0
  induction r with
  | door => exact b.zero
  | @step i k fs a e m ih =>
    obtain ⟨j, hj, ej⟩ := List.mem_iff_getElem.mp ih
    exact b.dn j i fs k (by omega) (by rw [List.getElem?_eq_getElem hj, ej]) e m
theorem placesT_append : ∀ (a : Nat) (p r : List (List Th)), placesT a (p ++ r) = placesT a p ++ placesT (a + sizeT p) r
  | a, [], r => by simp [placesT, sizeT]
  | a, fs :: p, r => by
    show a :: placesT (a + 1 + fs.length) (p ++ r) = (a :: placesT (a + 1 + fs.length) p) ++ placesT (a + (1 + fs.length + sizeT p)) r
    rw [placesT_append _ p r, List.cons_append, show a + 1 + fs.length + sizeT p = a + (1 + fs.length + sizeT p) by omega]
theorem placesT_snoc {bxs : List (List Th)} {i : Nat} {fs : List Th} (h : bxs[i]? = some fs) : placesT 0 (bxs.take (i + 1)) = placesT 0 (bxs.take i) ++ [plT bxs i] := by
  rw [List.take_add_one, h, Option.toList_some, placesT_append, Nat.zero_add]
  rfl
/-- the cells of the law's boxes -/
def rowT (g : Nat → Int) : List (List Th) → List Int
  | [] => []
  | fs :: r => (4 * (fs.length : Int)) :: (fs.map (wordT g) ++ rowT g r)
theorem rowT_eq (g : Nat → Int) : ∀ (a : Nat) (bxs : List (List Th)), mflat (fun _ => false) a (bsOf g bxs) = rowT g bxs
  | _, [] => rfl
  | a, fs :: r => by
    show (4 * ((fs.map (wordT g)).length : Int) + if false = true then 2 else 0) :: (fs.map (wordT g) ++ mflat (fun _ => false) (a + 1 + (fs.map (wordT g)).length) (bsOf g r)) = _
    rw [rowT_eq g _ r, List.length_map, if_neg Bool.false_ne_true, Int.add_zero]
    rfl
theorem rowT_append (g : Nat → Int) : ∀ (p r : List (List Th)), rowT g (p ++ r) = rowT g p ++ rowT g r
  | [], r => rfl
  | fs :: p, r => by
    show _ :: (_ ++ rowT g (p ++ r)) = (_ :: (_ ++ rowT g p)) ++ rowT g r
    rw [rowT_append g p r, List.cons_append, List.append_assoc]
theorem rowT_snoc (g : Nat → Int) {bxs : List (List Th)} {i : Nat} {fs : List Th} (h : bxs[i]? = some fs) : rowT g (bxs.take (i + 1)) = rowT g (bxs.take i) ++ (4 * (fs.length : Int)) :: fs.map (wordT g) := by
  rw [List.take_add_one, h, Option.toList_some, rowT_append]
  show _ ++ _ :: (_ ++ []) = _
  rw [List.append_nil]
theorem rowT_len (g : Nat → Int) : ∀ bxs : List (List Th), (rowT g bxs).length = sizeT bxs
  | [] => rfl
  | fs :: r => by
    show (fs.map (wordT g) ++ rowT g r).length + 1 = 1 + fs.length + sizeT r
    rw [List.length_append, List.length_map, rowT_len g r]
    omega
theorem sizeT_take {bxs : List (List Th)} (i : Nat) : sizeT (bxs.take i) ≤ sizeT bxs := by
  have h := sizeT_append (bxs.take i) (bxs.drop i)
  rw [List.take_append_drop] at h
  omega
theorem sizeT_field {bxs : List (List Th)} {i : Nat} {fs : List Th} (h : bxs[i]? = some fs) : plT bxs i + 1 + fs.length ≤ sizeT bxs := by
  rw [← plT_succ h]
  exact sizeT_take (i + 1)
theorem kept_of {bxs : List (List Th)} (v : VB bxs) (h0 : 0 < bxs.length) {F : List Nat} {ns : List Int} (nd : F.Nodup) (h : ∀ k, k ∈ F ↔ RI bxs k) (p : ns.Perm (F.map fun k : Nat => (k : Int))) (s : ns.Pairwise (· ≤ ·)) : ns = (keptT bxs).map fun k : Nat => (k : Int) := by
  have e1 : ns = (ns.map Int.toNat).map fun k : Nat => (k : Int) := by
    rw [List.map_map]
    conv => lhs; rw [← List.map_id ns]
    refine List.map_congr_left fun x hx => ?_
    obtain ⟨k, _, rfl⟩ := List.mem_map.mp (p.mem_iff.mp hx)
    rfl
  have p2 : (ns.map Int.toNat).Perm F := by
    have := p.map Int.toNat
    rw [List.map_map] at this
    have e : (F.map (Int.toNat ∘ fun k : Nat => (k : Int))) = F := by
      conv => rhs; rw [← List.map_id F]
      exact List.map_congr_left fun x _ => rfl
    rw [e] at this
    exact this
  have nd2 : (ns.map Int.toNat).Nodup := p2.nodup_iff.mpr nd
  have s2 : (ns.map Int.toNat).Pairwise (· ≤ ·) := by
    refine List.pairwise_map.mpr (s.imp fun {a b} hab => ?_)
    omega
  have s3 : (ns.map Int.toNat).Pairwise (· < ·) := (s2.and nd2).imp fun {a b} hab => by
    have h1 := hab.1
    have h2 : a ≠ b := hab.2
    omega
  have e2 : ns.map Int.toNat = keptT bxs := sorted_eq s3 (keptT_sorted bxs) fun k => by
    rw [p2.mem_iff, h k, keptT_mem v h0]
  rw [← e2]
  exact e1
end TS
namespace TS
theorem wordT_congr {g g' : Nat → Int} {fs : List Th} (h : ∀ k, Th.box k ∈ fs → g k = g' k) : fs.map (wordT g) = fs.map (wordT g') := List.map_congr_left fun t ht => by
  cases t with
  | num n => rfl
  | box k =>
    show 2 * g k + 1 = 2 * g' k + 1
    rw [h k ht]
theorem rowT_congr {g g' : Nat → Int} : ∀ {bxs : List (List Th)}, (∀ fs ∈ bxs, ∀ k, Th.box k ∈ fs → g k = g' k) → rowT g bxs = rowT g' bxs
  | [], _ => rfl
  | fs :: r, h => by
    show _ :: (fs.map (wordT g) ++ rowT g r) = _ :: (fs.map (wordT g') ++ rowT g' r)
    rw [wordT_congr (h fs List.mem_cons_self), rowT_congr fun gs hg => h gs (List.mem_cons_of_mem _ hg)]
theorem sum_sizes : ∀ bxs : List (List Th), (bxs.map fun fs => (1 : Int) + (fs.length : Int)).sum = (sizeT bxs : Int)
  | [] => rfl
  | fs :: r => by
    rw [List.map_cons, List.sum_cons, sum_sizes r]
    show _ = ((1 + fs.length + sizeT r : Nat) : Int)
    omega
/-- the marks of the first i boxes that the law comes to -/
noncomputable def MK (bxs : List (List Th)) (i : Nat) (h : Nat) : Bool := ((keptT bxs).take i).any fun k => plT bxs k == h
theorem MK_zero {bxs : List (List Th)} : MK bxs 0 = fun _ => false := rfl
theorem MK_iff {bxs : List (List Th)} {i h : Nat} : MK bxs i h = true ↔ ∃ k ∈ (keptT bxs).take i, plT bxs k = h := by
  unfold MK
  rw [List.any_eq_true]
  constructor
  · rintro ⟨k, hk, e⟩
    exact ⟨k, hk, by simpa using e⟩
  · rintro ⟨k, hk, e⟩
    exact ⟨k, hk, by simpa using e⟩
theorem kept_lt {bxs : List (List Th)} {k : Nat} (h : k ∈ keptT bxs) : k < bxs.length := by
  unfold keptT at h
  exact List.mem_range.mp (List.mem_filter.mp h).1
theorem MK_new {bxs : List (List Th)} {i k : Nat} (h : (keptT bxs)[i]? = some k) : MK bxs i (plT bxs k) = false := by
  cases e : MK bxs i (plT bxs k) with
  | false => rfl
  | true =>
    obtain ⟨j, hj, ej⟩ := MK_iff.mp e
    have hk := kept_lt (List.mem_of_getElem? h)
    have hj2 := kept_lt (List.mem_of_mem_take hj)
    have ejk := plT_inj hj2 hk ej
    subst ejk
    have s := keptT_sorted bxs
    obtain ⟨m, hm, em⟩ := List.mem_iff_getElem.mp hj
    rw [List.getElem_take] at em
    have hm2 : m < i := by
      rw [List.length_take] at hm
      omega
    obtain ⟨hi, ei⟩ := List.getElem?_eq_some_iff.mp h
    have := List.pairwise_iff_getElem.mp s m i (by omega) hi hm2
    omega
theorem MK_succ {bxs : List (List Th)} {i k : Nat} (h : (keptT bxs)[i]? = some k) : MK bxs (i + 1) = mkd (MK bxs i) (plT bxs k) := by
  funext x
  unfold MK mkd
  rw [List.take_add_one, h, Option.toList_some, List.any_append]
  simp only [List.any_cons, List.any_nil, Bool.or_false]
  rw [Bool.or_comm, Bool.beq_comm]
theorem MK_all {bxs : List (List Th)} (v : VB bxs) (h0 : 0 < bxs.length) : mflat (MK bxs (keptT bxs).length) 0 (bsOf (pg bxs) bxs) = mflat (alive (bsOf (pg bxs) bxs)) 0 (bsOf (pg bxs) bxs) := mflat_below fun h hh => by
  rw [places_bsOf] at hh
  obtain ⟨k, hk, rfl⟩ := placesT_mem hh
  rw [alive_pl v h0 hk]
  cases e : aliveT bxs k with
  | true => exact MK_iff.mpr ⟨k, by rw [List.take_length]; exact (keptT_mem v h0).mpr (aliveT_iff.mp e), rfl⟩
  | false =>
    cases e2 : MK bxs (keptT bxs).length (plT bxs k) with
    | false => rfl
    | true =>
      obtain ⟨j, hj, ej⟩ := MK_iff.mp e2
      rw [List.take_length] at hj
      have := plT_inj (kept_lt hj) hk ej
      subst this
      rw [aliveT_iff.mpr ((keptT_mem v h0).mp hj)] at e
      cases e
theorem pg_get {bxs : List (List Th)} {k : Nat} (h : k < bxs.length) : ((placesT 0 bxs).map fun k : Nat => (k : Int)).getD k 0 = pg bxs k := by
  rw [List.getD_eq_getElem?_getD, List.getElem?_map, placesT_get0 h]
  rfl
/-- the boxes' words by their own places -/
theorem rowT_pg {bxs : List (List Th)} (v : VB bxs) : rowT (fun k => ((placesT 0 bxs).map fun k : Nat => (k : Int)).getD k 0) bxs = mflat (fun _ => false) 0 (bsOf (pg bxs) bxs) := by
  rw [rowT_eq]
  exact rowT_congr fun fs hf k hk => pg_get (v fs hf k hk)
end TS
namespace TS
/-! ### what the law expects of the row pushed together -/
/-- the boxes that stay, of the first n -/
noncomputable def keptTo (bxs : List (List Th)) (n : Nat) : List Nat := (List.range n).filter (aliveT bxs)
def boxAt (bxs : List (List Th)) (k : Nat) : List Th := bxs.getD k []
noncomputable def kb (bxs : List (List Th)) (n : Nat) : List (List Th) := (keptTo bxs n).map (boxAt bxs)
theorem boxAt_eq {bxs : List (List Th)} {k : Nat} {fs : List Th} (h : bxs[k]? = some fs) : boxAt bxs k = fs := by
  unfold boxAt
  rw [List.getD_eq_getElem?_getD, h]
  rfl
theorem keptTo_succ {bxs : List (List Th)} {n : Nat} : keptTo bxs (n + 1) = keptTo bxs n ++ if aliveT bxs n then [n] else [] := by
  unfold keptTo
  rw [List.range_succ, List.filter_append]
  congr 1
  rw [List.filter_cons, List.filter_nil]
theorem kb_succ {bxs : List (List Th)} {n : Nat} {fs : List Th} (h : bxs[n]? = some fs) : kb bxs (n + 1) = kb bxs n ++ if aliveT bxs n then [fs] else [] := by
  unfold kb
  rw [keptTo_succ, List.map_append]
  congr 1
  cases aliveT bxs n with
  | true =>
    rw [if_pos rfl, if_pos rfl]
    show [boxAt bxs n] = [fs]
    rw [boxAt_eq h]
  | false => rfl
theorem bsOf_append (g : Nat → Int) (p r : List (List Th)) : bsOf g (p ++ r) = bsOf g p ++ bsOf g r := List.map_append
theorem bsOf_take (g : Nat → Int) {bxs : List (List Th)} {n : Nat} {fs : List Th} (h : bxs[n]? = some fs) : bsOf g (bxs.take (n + 1)) = bsOf g (bxs.take n) ++ [fs.map (wordT g)] := by
  rw [List.take_add_one, h, Option.toList_some, bsOf_append]
  rfl
theorem relink_word (q : Nat → Nat) (bxs : List (List Th)) (t : Th) : relink q (wordT (pg bxs) t) = wordT (fun k => (q (plT bxs k) : Int)) t := by
  cases t with
  | num n =>
    unfold relink
    rw [if_neg]
    · rfl
    · intro z
      have : (2 * n) % 2 = 1 := z
      omega
  | box k =>
    unfold relink
    have e : wordT (pg bxs) (.box k) = lk (plT bxs k) := rfl
    rw [e, if_pos (lk_odd _), lk_half, Int.toNat_natCast]
    rfl
section
variable {bxs : List (List Th)} {al : Nat → Bool}
theorem out_kept (q : Nat → Nat) (ha : ∀ k, k < bxs.length → al (plT bxs k) = aliveT bxs k) : ∀ n, n ≤ bxs.length →
    outR al q 0 (bsOf (pg bxs) (bxs.take n)) = rowT (fun k => (q (plT bxs k) : Int)) (kb bxs n) ∧ ksize al 0 (bsOf (pg bxs) (bxs.take n)) = sizeT (kb bxs n)
  | 0, _ => ⟨rfl, rfl⟩
  | n + 1, h => by
    obtain ⟨e1, e2⟩ := out_kept q ha n (by omega)
    have hn : n < bxs.length := h
    have ef := List.getElem?_eq_getElem hn
    have es : size (bsOf (pg bxs) (bxs.take n)) = plT bxs n := size_bsOf _ _
    rw [bsOf_take _ ef, outR_append, ksize_append, Nat.zero_add, e1, e2, es, kb_succ ef, rowT_append, sizeT_append]
    show rowT _ _ ++ ((if al (plT bxs n) then (4 * ((bxs[n].map (wordT (pg bxs))).length : Int)) :: (bxs[n].map (wordT (pg bxs))).map (relink q) else []) ++ []) = _ ∧ _ + ((if al (plT bxs n) then 1 + (bxs[n].map (wordT (pg bxs))).length else 0) + 0) = _
    rw [ha n hn, List.length_map, List.append_nil, Nat.add_zero]
    cases aliveT bxs n with
    | true =>
      rw [if_pos rfl, if_pos rfl, if_pos rfl]
      refine ⟨?_, by show _ = _ + (1 + _ + 0); omega⟩
      congr 1
      show _ = _ :: (_ ++ [])
      rw [List.append_nil, List.map_map]
      congr 1
      exact List.map_congr_left fun t _ => relink_word q bxs t
    | false => exact ⟨rfl, rfl⟩
end
theorem kept_all (bxs : List (List Th)) : keptT bxs = keptTo bxs bxs.length := rfl
/-- the boxes that stay, ahead of the i-th of them -/
theorem kept_take {bxs : List (List Th)} {i k : Nat} (h : (keptT bxs)[i]? = some k) : (keptT bxs).take i = keptTo bxs k := by
  have hk := kept_lt (List.mem_of_getElem? h)
  have s := keptT_sorted bxs
  obtain ⟨hi, ei⟩ := List.getElem?_eq_some_iff.mp h
  refine sorted_eq (s.sublist (List.take_sublist _ _)) (List.pairwise_lt_range.filter _) fun x => ?_
  constructor
  · intro hx
    have hx2 := List.mem_of_mem_take hx
    obtain ⟨m, hm, em⟩ := List.mem_iff_getElem.mp hx
    rw [List.getElem_take] at em
    rw [List.length_take] at hm
    have := List.pairwise_iff_getElem.mp s m i (by omega) hi (by omega)
    unfold keptT at hx2
    exact List.mem_filter.mpr ⟨List.mem_range.mpr (by omega), (List.mem_filter.mp hx2).2⟩
  · intro hx
    obtain ⟨h1, h2⟩ := List.mem_filter.mp hx
    have h1 := List.mem_range.mp h1
    have hx2 : x ∈ keptT bxs := List.mem_filter.mpr ⟨List.mem_range.mpr (by omega), h2⟩
    obtain ⟨m, hm, em⟩ := List.mem_iff_getElem.mp hx2
    have hmi : m < i := by
      rcases Nat.lt_trichotomy m i with z | z | z
      · exact z
      · subst z
        rw [ei] at em
        omega
      · have := List.pairwise_iff_getElem.mp s i m hi hm z
        omega
    exact List.mem_iff_getElem.mpr ⟨m, by rw [List.length_take]; omega, by rw [List.getElem_take]; exact em⟩
/-- the place of a box that stays, behind the pushing -/
noncomputable def gl (bxs : List (List Th)) (k : Nat) : Int := (sizeT (kb bxs k) : Int)
theorem qf_kept {bxs : List (List Th)} (v : VB bxs) (h0 : 0 < bxs.length) {k : Nat} (hk : k < bxs.length) : (qf (alive (bsOf (pg bxs) bxs)) (bsOf (pg bxs) bxs) (plT bxs k) : Int) = gl bxs k := by
  have e : bsOf (pg bxs) bxs = bsOf (pg bxs) (bxs.take k) ++ bsOf (pg bxs) (bxs.drop k) := by rw [← bsOf_append, List.take_append_drop]
  have es : size (bsOf (pg bxs) (bxs.take k)) = plT bxs k := size_bsOf _ _
  have h1 : qf (alive (bsOf (pg bxs) bxs)) (bsOf (pg bxs) bxs) (plT bxs k) = ksize (alive (bsOf (pg bxs) bxs)) 0 (bsOf (pg bxs) (bxs.take k)) := by
    rw [← es]
    conv => lhs; arg 2; rw [e]
    exact qf_eq
  rw [h1, (out_kept (al := alive (bsOf (pg bxs) bxs)) (fun x => x) (fun k hk => alive_pl v h0 hk) k (by omega)).2]
  rfl
/-- a box that stays leads to boxes that stay -/
theorem kb_mem {bxs : List (List Th)} (v : VB bxs) (h0 : 0 < bxs.length) {fs : List Th} (h : fs ∈ kb bxs bxs.length) : ∃ j, RI bxs j ∧ bxs[j]? = some fs := by
  obtain ⟨j, hj, ej⟩ := List.mem_map.mp h
  have hj2 : j ∈ keptT bxs := hj
  have hl := kept_lt hj2
  have ef := List.getElem?_eq_getElem hl
  rw [boxAt_eq ef] at ej
  exact ⟨j, (keptT_mem v h0).mp hj2, by rw [← ej]; exact ef⟩
/-- the row pushed together is the law's own -/
theorem pushed_due {bxs : List (List Th)} (v : VB bxs) (h0 : 0 < bxs.length) :
    outR (alive (bsOf (pg bxs) bxs)) (qf (alive (bsOf (pg bxs) bxs)) (bsOf (pg bxs) bxs)) 0 (bsOf (pg bxs) bxs) = rowT (gl bxs) (kb bxs bxs.length) ∧ ksize (alive (bsOf (pg bxs) bxs)) 0 (bsOf (pg bxs) bxs) = sizeT (kb bxs bxs.length) := by
  have h := out_kept (al := alive (bsOf (pg bxs) bxs)) (qf (alive (bsOf (pg bxs) bxs)) (bsOf (pg bxs) bxs)) (fun k hk => alive_pl v h0 hk) bxs.length (Nat.le_refl _)
  rw [List.take_length] at h
  refine ⟨h.1.trans (rowT_congr fun fs hf k hk => ?_), h.2⟩
  obtain ⟨j, _, ej⟩ := kb_mem v h0 hf
  exact qf_kept v h0 (v fs (List.mem_of_getElem? ej) k hk)
/-! ### pushed together again -/
theorem whole_out {al : Nat → Bool} {q : Nat → Nat} : ∀ {a : Nat} {bs : List (List Int)}, (∀ h, h ∈ places a bs → al h = true) → (∀ fs ∈ bs, ∀ x ∈ fs, relink q x = x) → outR al q a bs = mflat (fun _ => false) a bs ∧ ksize al a bs = size bs
  | _, [], _, _ => ⟨rfl, rfl⟩
  | a, fs :: r, h, e => by
    obtain ⟨e1, e2⟩ := whole_out (al := al) (q := q) (a := a + 1 + fs.length) (bs := r) (fun x hx => h x (List.mem_cons_of_mem _ hx)) fun gs hg => e gs (List.mem_cons_of_mem _ hg)
    have ha := h a List.mem_cons_self
    show (if al a then (4 * (fs.length : Int)) :: fs.map (relink q) else []) ++ outR al q (a + 1 + fs.length) r = (4 * (fs.length : Int) + if false = true then 2 else 0) :: (fs ++ mflat (fun _ => false) (a + 1 + fs.length) r) ∧ (if al a then 1 + fs.length else 0) + ksize al (a + 1 + fs.length) r = 1 + fs.length + size r
    rw [ha, if_pos rfl, if_pos rfl, e1, e2, if_neg Bool.false_ne_true, Int.add_zero]
    refine ⟨?_, rfl⟩
    have em : fs.map (relink q) = fs := by
      conv => rhs; rw [← List.map_id fs]
      exact List.map_congr_left fun x hx => e fs List.mem_cons_self x hx
    rw [em]
    rfl
theorem whole_size {al : Nat → Bool} : ∀ {a : Nat} {bs : List (List Int)}, (∀ h, h ∈ places a bs → al h = true) → ksize al a bs = size bs
  | _, [], _ => rfl
  | a, fs :: r, h => by
    show (if al a then 1 + fs.length else 0) + ksize al (a + 1 + fs.length) r = 1 + fs.length + size r
    rw [h a List.mem_cons_self, if_pos rfl, whole_size fun x hx => h x (List.mem_cons_of_mem _ hx)]
theorem whole_again {bs : List (List Int)} (v : Valid bs) (h : ∀ x, x ∈ places 0 bs → Reach bs x) : outR (alive bs) (qf (alive bs) bs) 0 bs = mflat (fun _ => false) 0 bs ∧ ksize (alive bs) 0 bs = size bs := by
  refine whole_out (fun x hx => alive_iff.mpr (h x hx)) fun fs hf x hx => ?_
  unfold relink
  by_cases ho : x % 2 = 1
  · obtain ⟨g, rfl, hg⟩ := v fs hf x hx ho
    rw [if_pos ho, lk_half, Int.toNat_natCast]
    obtain ⟨p, gs, r, e, eg⟩ := places_at hg
    have h1 : qf (alive bs) bs g = ksize (alive bs) 0 p := by
      rw [eg]
      conv => lhs; arg 2; rw [e]
      exact qf_eq
    have h2 : ksize (alive bs) 0 p = size p := by
      refine whole_size fun x hx => alive_iff.mpr (h x ?_)
      rw [e, places_append]
      exact List.mem_append_left _ hx
    rw [h1, h2, ← eg]
  · rw [if_neg ho]
/-- the law's row behind the pushing -/
noncomputable def bs2 (bxs : List (List Th)) : List (List Int) := bsOf (gl bxs) (kb bxs bxs.length)
theorem kb_get {bxs : List (List Th)} {i k : Nat} (h : (keptT bxs)[i]? = some k) : (kb bxs bxs.length)[i]? = some (boxAt bxs k) := by
  show ((keptT bxs).map (boxAt bxs))[i]? = _
  rw [List.getElem?_map, h]
  rfl
theorem kb_place {bxs : List (List Th)} {i k : Nat} (h : (keptT bxs)[i]? = some k) : plT (kb bxs bxs.length) i = sizeT (kb bxs k) := by
  unfold plT
  have e : (kb bxs bxs.length).take i = kb bxs k := by
    show ((keptT bxs).map (boxAt bxs)).take i = (keptTo bxs k).map (boxAt bxs)
    rw [← List.map_take, kept_take h]
  rw [e]
theorem kb_len (bxs : List (List Th)) : (kb bxs bxs.length).length = (keptT bxs).length := by
  show ((keptT bxs).map (boxAt bxs)).length = _
  rw [List.length_map]
theorem bs2_place {bxs : List (List Th)} (v : VB bxs) (h0 : 0 < bxs.length) {k : Nat} (r : RI bxs k) : sizeT (kb bxs k) ∈ places 0 (bs2 bxs) := by
  have hk := (keptT_mem v h0).mpr r
  obtain ⟨i, hi, ei⟩ := List.mem_iff_getElem.mp hk
  have h : (keptT bxs)[i]? = some k := by rw [List.getElem?_eq_getElem hi, ei]
  unfold bs2
  rw [places_bsOf, ← kb_place h]
  exact List.mem_of_getElem? (placesT_get0 (by rw [kb_len]; exact hi))
theorem bs2_valid {bxs : List (List Th)} (v : VB bxs) (h0 : 0 < bxs.length) : Valid (bs2 bxs) := by
  intro fs hf x hx ho
  obtain ⟨gs, hg, rfl⟩ := List.mem_map.mp hf
  obtain ⟨t, ht, rfl⟩ := List.mem_map.mp hx
  cases t with
  | num n =>
    exfalso
    have : (2 * n) % 2 = 1 := ho
    omega
  | box k =>
    obtain ⟨j, rj, ej⟩ := kb_mem v h0 hg
    exact ⟨sizeT (kb bxs k), rfl, bs2_place v h0 (.step rj ej ht)⟩
theorem bs2_reach {bxs : List (List Th)} (v : VB bxs) (h0 : 0 < bxs.length) {k : Nat} (r : RI bxs k) : Reach (bs2 bxs) (sizeT (kb bxs k)) := by
  induction r with
  | door => exact .door
  | @step i k fs a e m ih =>
    have hi := (keptT_mem v h0).mpr a
    obtain ⟨j, hj, ej⟩ := List.mem_iff_getElem.mp hi
    have h : (keptT bxs)[j]? = some i := by rw [List.getElem?_eq_getElem hj, ej]
    have g := kb_get h
    rw [boxAt_eq e] at g
    obtain ⟨p, r', eb, es⟩ := bsOf_get (g := gl bxs) g
    rw [kb_place h] at es
    exact .step eb (by rw [es]; exact ih) (List.mem_map.mpr ⟨_, m, rfl⟩) (bs2_place v h0 (.step a e m))
theorem bs2_all {bxs : List (List Th)} (v : VB bxs) (h0 : 0 < bxs.length) : ∀ x, x ∈ places 0 (bs2 bxs) → Reach (bs2 bxs) x := by
  intro x hx
  have hx2 := hx
  unfold bs2 at hx2
  rw [places_bsOf] at hx2
  obtain ⟨i, hi, ei⟩ := placesT_mem hx2
  rw [kb_len] at hi
  have h : (keptT bxs)[i]? = some (keptT bxs)[i] := List.getElem?_eq_getElem hi
  rw [kb_place h] at ei
  rw [ei]
  exact bs2_reach v h0 ((keptT_mem v h0).mp (List.getElem_mem hi))
theorem kept_zero {bxs : List (List Th)} (v : VB bxs) (h0 : 0 < bxs.length) : 0 ∈ keptT bxs := (keptT_mem v h0).mpr .door
theorem bs2_ne {bxs : List (List Th)} (v : VB bxs) (h0 : 0 < bxs.length) : bs2 bxs ≠ [] := fun z => by
  have h := bs2_place v h0 (RI.door (bxs := bxs))
  rw [z] at h
  cases h
/-- of the first n numbers of those that stay -/
theorem kb_snoc {bxs : List (List Th)} {i k : Nat} {fs : List Th} (h : (keptT bxs)[i]? = some k) (e : bxs[k]? = some fs) : (kb bxs bxs.length).take (i + 1) = (kb bxs bxs.length).take i ++ [fs] := by
  rw [List.take_add_one, kb_get h, boxAt_eq e]
  rfl
end TS
namespace TS
/-! ### rooms: boxes by their numbers -/
/-- a thing as it is told: by a place -/
def toPl (bxs : List (List Th)) : Th → Th
  | .num n => .num n
  | .box k => .box (plT bxs k)
theorem word_toPl {bxs : List (List Th)} {t : Th} : wordT (pg bxs) t = wordT (fun k => (k : Int)) (toPl bxs t) := by cases t <;> rfl
/-- a room's row -/
def enc (bxs : List (List Th)) (N : Nat) : List Int := rowT (pg bxs) bxs ++ List.replicate (N - sizeT bxs) 0
structure RoomOk (bxs : List (List Th)) (N : Nat) : Prop where
  vb : VB bxs
  ne : 0 < bxs.length
  sz : sizeT bxs ≤ N
  le : N ≤ 400
theorem enc_eq {bxs : List (List Th)} {N : Nat} : enc bxs N = mflat (fun _ => false) 0 (bsOf (pg bxs) bxs) ++ List.replicate (N - sizeT bxs) 0 := by
  unfold enc
  rw [rowT_eq]
theorem enc_len {bxs : List (List Th)} {N : Nat} (h : sizeT bxs ≤ N) : (enc bxs N).length = N := by
  unfold enc
  rw [List.length_append, rowT_len, List.length_replicate]
  omega
theorem len_le_size : ∀ bxs : List (List Th), bxs.length ≤ sizeT bxs
  | [] => Nat.le_refl _
  | fs :: r => by
    have := len_le_size r
    show r.length + 1 ≤ 1 + fs.length + sizeT r
    omega
theorem pl_old {bxs r : List (List Th)} {k : Nat} (h : k ≤ bxs.length) : plT (bxs ++ r) k = plT bxs k := by
  unfold plT
  rw [List.take_append_of_le_length h]
/-! #### a box more -/
theorem enc_made {bxs : List (List Th)} {ths : List Th} {N : Nat} (ok : RoomOk bxs N) (ht : ∀ k, Th.box k ∈ ths → k < bxs.length) (hz : sizeT bxs + 1 + ths.length ≤ N) :
    enc (bxs ++ [ths]) N = (enc bxs N).take (sizeT bxs) ++ ((4 * (ths.length : Int)) :: ths.map (wordT (pg bxs))) ++ (enc bxs N).drop (sizeT bxs + (1 + ths.length)) := by
  have e1 : rowT (pg (bxs ++ [ths])) bxs = rowT (pg bxs) bxs := rowT_congr fun fs hf k hk => by
    unfold pg
    rw [pl_old (Nat.le_of_lt (ok.vb fs hf k hk))]
  have e2 : ths.map (wordT (pg (bxs ++ [ths]))) = ths.map (wordT (pg bxs)) := wordT_congr fun k hk => by
    unfold pg
    rw [pl_old (Nat.le_of_lt (ht k hk))]
  unfold enc
  rw [rowT_append, e1, sizeT_append]
  show (rowT (pg bxs) bxs ++ _ :: (ths.map (wordT (pg (bxs ++ [ths]))) ++ [])) ++ List.replicate (N - (sizeT bxs + (1 + ths.length + 0))) 0 = _
  rw [e2, List.append_nil]
  have l1 : (rowT (pg bxs) bxs).length = sizeT bxs := rowT_len _ _
  rw [List.take_append_of_le_length (by omega), List.take_of_length_le (by omega), List.drop_append, List.drop_of_length_le (by omega), l1, List.drop_replicate, List.nil_append]
  congr 2
  omega
theorem made_ok {bxs : List (List Th)} {ths : List Th} {N : Nat} (ok : RoomOk bxs N) (ht : ∀ k, Th.box k ∈ ths → k < bxs.length) (hz : sizeT bxs + 1 + ths.length ≤ N) : RoomOk (bxs ++ [ths]) N := by
  refine ⟨fun fs hf k hk => ?_, by rw [List.length_append]; have := ok.ne; omega, ?_, ok.le⟩
  · rw [List.length_append]
    rcases List.mem_append.mp hf with z | z
    · have := ok.vb fs z k hk
      omega
    · have : fs = ths := by simpa using z
      rw [this] at hk
      have := ht k hk
      omega
  · rw [sizeT_append]
    show sizeT bxs + (1 + ths.length + 0) ≤ N
    omega
/-! #### another thing for a field -/
theorem sizeT_set : ∀ {bxs : List (List Th)} {i : Nat} {fs gs : List Th}, bxs[i]? = some fs → gs.length = fs.length → sizeT (bxs.set i gs) = sizeT bxs
  | [], i, _, _, h, _ => by simp at h
  | x :: r, 0, fs, gs, h, e => by
    have : x = fs := Option.some.inj h
    subst this
    show 1 + gs.length + sizeT r = 1 + x.length + sizeT r
    rw [e]
  | x :: r, i + 1, fs, gs, h, e => by
    show 1 + x.length + sizeT (r.set i gs) = 1 + x.length + sizeT r
    rw [sizeT_set (i := i) (by simpa using h) e]
theorem pl_set {bxs : List (List Th)} {i k : Nat} {fs gs : List Th} (h : bxs[i]? = some fs) (e : gs.length = fs.length) : plT (bxs.set i gs) k = plT bxs k := by
  unfold plT
  rw [List.take_set]
  by_cases hi : i < k
  · refine sizeT_set (fs := fs) ?_ e
    rw [List.getElem?_take, if_pos hi]
    exact h
  · rw [List.set_eq_of_length_le (by rw [List.length_take]; omega)]
theorem rowT_set (g : Nat → Int) : ∀ {bxs : List (List Th)} {i f : Nat} {fs : List Th} {t : Th}, bxs[i]? = some fs → f < fs.length → rowT g (bxs.set i (fs.set f t)) = (rowT g bxs).set (plT bxs i + 1 + f) (wordT g t)
  | [], i, f, _, _, h, _ => by simp at h
  | x :: r, 0, f, fs, t, h, hf => by
    have : x = fs := Option.some.inj h
    subst this
    show (4 * ((x.set f t).length : Int)) :: ((x.set f t).map (wordT g) ++ rowT g r) = ((4 * (x.length : Int)) :: (x.map (wordT g) ++ rowT g r)).set (0 + 1 + f) (wordT g t)
    rw [List.length_set, show 0 + 1 + f = f + 1 by omega, List.set_cons_succ, List.set_append_left _ _ (by rw [List.length_map]; exact hf), List.map_set]
  | x :: r, i + 1, f, fs, t, h, hf => by
    show (4 * (x.length : Int)) :: (x.map (wordT g) ++ rowT g (r.set i (fs.set f t))) = ((4 * (x.length : Int)) :: (x.map (wordT g) ++ rowT g r)).set (1 + x.length + plT r i + 1 + f) (wordT g t)
    rw [rowT_set g (bxs := r) (i := i) (by simpa using h) hf, show 1 + x.length + plT r i + 1 + f = (x.length + (plT r i + 1 + f)) + 1 by omega, List.set_cons_succ, List.set_append_right _ _ (by rw [List.length_map]; omega), List.length_map, Nat.add_sub_cancel_left]
theorem enc_put {bxs : List (List Th)} {i f N : Nat} {fs : List Th} {t : Th} (h : bxs[i]? = some fs) (hf : f < fs.length) :
    enc (bxs.set i (fs.set f t)) N = (enc bxs N).set (plT bxs i + 1 + f) (wordT (pg bxs) t) := by
  have hl : (fs.set f t).length = fs.length := List.length_set
  have hp : pg (bxs.set i (fs.set f t)) = pg bxs := funext fun k => by unfold pg; rw [pl_set h hl]
  unfold enc
  rw [hp, sizeT_set h hl, rowT_set _ h hf, List.set_append_left]
  rw [rowT_len]
  have := sizeT_field h
  omega
theorem put_ok {bxs : List (List Th)} {i f N : Nat} {fs : List Th} {t : Th} (ok : RoomOk bxs N) (h : bxs[i]? = some fs) (hf : f < fs.length) (ht : ∀ k, t = .box k → k < bxs.length) : RoomOk (bxs.set i (fs.set f t)) N := by
  have hl : (fs.set f t).length = fs.length := List.length_set
  refine ⟨fun gs hg k hk => ?_, by rw [List.length_set]; exact ok.ne, by rw [sizeT_set h hl]; exact ok.sz, ok.le⟩
  rw [List.length_set]
  rcases List.mem_or_eq_of_mem_set hg with z | z
  · exact ok.vb gs z k hk
  · rw [z] at hk
    rcases List.mem_or_eq_of_mem_set hk with q | q
    · exact ok.vb fs (List.mem_of_getElem? h) k q
    · exact ht k q.symm
/-! #### what stands in the row -/
theorem enc_head {bxs : List (List Th)} {k N : Nat} {fs : List Th} (h : bxs[k]? = some fs) : (enc bxs N)[plT bxs k]? = some (4 * (fs.length : Int)) := by
  obtain ⟨p, r, eb, es⟩ := bsOf_get (g := pg bxs) h
  rw [enc_eq, eb, ← es, row_head, if_neg Bool.false_ne_true, Int.add_zero, List.length_map]
theorem enc_fields {bxs : List (List Th)} {k N : Nat} {fs : List Th} (h : bxs[k]? = some fs) : ((enc bxs N).drop (plT bxs k + 1)).take fs.length = fs.map (wordT (pg bxs)) := by
  obtain ⟨p, r, eb, es⟩ := bsOf_get (g := pg bxs) h
  refine List.ext_getElem? fun i => ?_
  rw [List.getElem?_take]
  by_cases hi : i < fs.length
  · rw [if_pos hi, List.getElem?_drop, enc_eq, eb, ← es, row_field (by rw [List.length_map]; exact hi)]
  · rw [if_neg hi, List.getElem?_eq_none (by rw [List.length_map]; omega)]
/-! #### pushing together -/
/-- the number of a box behind the pushing -/
noncomputable def rank (bxs : List (List Th)) (k : Nat) : Nat := (keptTo bxs k).length
noncomputable def reT (bxs : List (List Th)) : Th → Th
  | .num n => .num n
  | .box k => .box (rank bxs k)
/-- the boxes that stay, by their new numbers -/
noncomputable def kbI (bxs : List (List Th)) : List (List Th) := (kb bxs bxs.length).map fun fs => fs.map (reT bxs)
theorem rank_get {bxs : List (List Th)} {i k : Nat} (h : (keptT bxs)[i]? = some k) : rank bxs k = i := by
  unfold rank
  rw [← kept_take h, List.length_take]
  have := (List.getElem?_eq_some_iff.mp h).1
  omega
theorem rank_of {bxs : List (List Th)} (v : VB bxs) (h0 : 0 < bxs.length) {k : Nat} (r : RI bxs k) : (keptT bxs)[rank bxs k]? = some k := by
  obtain ⟨i, hi, ei⟩ := List.mem_iff_getElem.mp ((keptT_mem v h0).mpr r)
  have h : (keptT bxs)[i]? = some k := by rw [List.getElem?_eq_getElem hi, ei]
  rw [rank_get h]
  exact h
theorem sizeT_mapT (f : Th → Th) : ∀ bxs : List (List Th), sizeT (bxs.map fun fs => fs.map f) = sizeT bxs
  | [] => rfl
  | fs :: r => by
    show 1 + (fs.map f).length + sizeT (r.map fun fs => fs.map f) = 1 + fs.length + sizeT r
    rw [List.length_map, sizeT_mapT f r]
theorem pl_mapT (f : Th → Th) {bxs : List (List Th)} {k : Nat} : plT (bxs.map fun fs => fs.map f) k = plT bxs k := by
  unfold plT
  rw [← List.map_take, sizeT_mapT]
theorem kbI_len (bxs : List (List Th)) : (kbI bxs).length = (keptT bxs).length := by
  unfold kbI
  rw [List.length_map, kb_len]
theorem kbI_size (bxs : List (List Th)) : sizeT (kbI bxs) = sizeT (kb bxs bxs.length) := sizeT_mapT _ _
theorem kbI_place {bxs : List (List Th)} (v : VB bxs) (h0 : 0 < bxs.length) {k : Nat} (r : RI bxs k) : plT (kbI bxs) (rank bxs k) = sizeT (kb bxs k) := by
  unfold kbI
  rw [pl_mapT]
  exact kb_place (rank_of v h0 r)
theorem kbI_get {bxs : List (List Th)} (v : VB bxs) (h0 : 0 < bxs.length) {k : Nat} {fs : List Th} (r : RI bxs k) (h : bxs[k]? = some fs) : (kbI bxs)[rank bxs k]? = some (fs.map (reT bxs)) := by
  unfold kbI
  rw [List.getElem?_map, kb_get (rank_of v h0 r), boxAt_eq h]
  rfl
theorem rowT_map (g g' : Nat → Int) (f : Th → Th) : ∀ {bxs : List (List Th)}, (∀ fs ∈ bxs, ∀ t ∈ fs, wordT g (f t) = wordT g' t) → rowT g (bxs.map fun fs => fs.map f) = rowT g' bxs
  | [], _ => rfl
  | fs :: r, h => by
    show (4 * ((fs.map f).length : Int)) :: ((fs.map f).map (wordT g) ++ rowT g (r.map fun fs => fs.map f)) = (4 * (fs.length : Int)) :: (fs.map (wordT g') ++ rowT g' r)
    rw [List.length_map, rowT_map g g' f fun gs hg => h gs (List.mem_cons_of_mem _ hg), List.map_map]
    congr 2
    exact List.map_congr_left fun t ht => h fs List.mem_cons_self t ht
theorem kbI_row {bxs : List (List Th)} (v : VB bxs) (h0 : 0 < bxs.length) : rowT (pg (kbI bxs)) (kbI bxs) = rowT (gl bxs) (kb bxs bxs.length) := by
  conv => lhs; arg 2; unfold kbI
  refine rowT_map _ _ _ fun fs hf t ht => ?_
  obtain ⟨j, rj, ej⟩ := kb_mem v h0 hf
  cases t with
  | num n => rfl
  | box k =>
    show 2 * pg (kbI bxs) (rank bxs k) + 1 = 2 * gl bxs k + 1
    unfold pg
    rw [kbI_place v h0 (.step rj ej ht)]
    rfl
theorem kbI_ok {bxs : List (List Th)} {N : Nat} (ok : RoomOk bxs N) : RoomOk (kbI bxs) N := by
  refine ⟨fun fs hf k hk => ?_, ?_, ?_, ok.le⟩
  · unfold kbI at hf
    obtain ⟨gs, hg, rfl⟩ := List.mem_map.mp hf
    obtain ⟨t, ht, et⟩ := List.mem_map.mp hk
    obtain ⟨j, rj, ej⟩ := kb_mem ok.vb ok.ne hg
    cases t with
    | num n => cases et
    | box m =>
      have e : rank bxs m = k := Th.box.inj et
      rw [kbI_len, ← e]
      exact (List.getElem?_eq_some_iff.mp (rank_of ok.vb ok.ne (.step rj ej ht))).1
  · rw [kbI_len]
    exact List.length_pos_of_mem (kept_zero ok.vb ok.ne)
  · rw [kbI_size, ← (pushed_due ok.vb ok.ne).2]
    have := ksize_le (alive (bsOf (pg bxs) bxs)) 0 (bsOf (pg bxs) bxs)
    rw [size_bsOf] at this
    have := ok.sz
    omega
/-- what the program's pushing leaves is the room of the boxes that stay -/
theorem enc_pushed {bxs : List (List Th)} {N : Nat} (ok : RoomOk bxs N) :
    outR (alive (bsOf (pg bxs) bxs)) (qf (alive (bsOf (pg bxs) bxs)) (bsOf (pg bxs) bxs)) 0 (bsOf (pg bxs) bxs) ++ List.replicate (N - ksize (alive (bsOf (pg bxs) bxs)) 0 (bsOf (pg bxs) bxs)) 0 = enc (kbI bxs) N ∧
    ksize (alive (bsOf (pg bxs) bxs)) 0 (bsOf (pg bxs) bxs) = sizeT (kbI bxs) := by
  obtain ⟨h1, h2⟩ := pushed_due ok.vb ok.ne
  unfold enc
  rw [h1, h2, kbI_row ok.vb ok.ne, kbI_size]
  exact ⟨rfl, rfl⟩
end TS
namespace TS
/-! ### walks over a room's boxes -/
/-- where a walk goes on -/
def nextT (bxs : List (List Th)) (k : Nat) (x : Int) : Nat :=
  match (bxs.getD k [])[(x % ((bxs.getD k []).length : Int)).toNat]? with
  | some (.box m) => m
  | _ => 0
def walkT (bxs : List (List Th)) : Nat → List Int → List Nat
  | _, [] => []
  | k, x :: xs => k :: walkT bxs (nextT bxs k x) xs
def goT (bxs : List (List Th)) : Nat → List Int → Nat
  | k, [] => k
  | k, x :: xs => goT bxs (nextT bxs k x) xs
theorem walkT_snoc (bxs : List (List Th)) (x : Int) : ∀ (xs : List Int) (k : Nat), walkT bxs k (xs ++ [x]) = walkT bxs k xs ++ [goT bxs k xs]
  | [], _ => rfl
  | y :: xs, k => by
    show k :: walkT bxs (nextT bxs k y) (xs ++ [x]) = k :: (walkT bxs (nextT bxs k y) xs ++ [goT bxs (nextT bxs k y) xs])
    rw [walkT_snoc bxs x xs]
theorem goT_snoc (bxs : List (List Th)) (x : Int) : ∀ (xs : List Int) (k : Nat), goT bxs k (xs ++ [x]) = nextT bxs (goT bxs k xs) x
  | [], _ => rfl
  | y :: xs, k => goT_snoc bxs x xs _
theorem walkT_len (bxs : List (List Th)) : ∀ (xs : List Int) (k : Nat), (walkT bxs k xs).length = xs.length
  | [], _ => rfl
  | y :: xs, k => by
    show (walkT bxs (nextT bxs k y) xs).length + 1 = xs.length + 1
    rw [walkT_len bxs xs]
theorem getD_of {bxs : List (List Th)} {k : Nat} {fs : List Th} (h : bxs[k]? = some fs) : bxs.getD k [] = fs := by
  rw [List.getD_eq_getElem?_getD, h]
  rfl
theorem next_some {bxs : List (List Th)} {k : Nat} {fs : List Th} (h : bxs[k]? = some fs) (x : Int) : nextT bxs k x = match fs[(x % (fs.length : Int)).toNat]? with | some (.box m) => m | _ => 0 := by
  unfold nextT
  rw [getD_of h]
theorem next_ri {bxs : List (List Th)} {k : Nat} (v : VB bxs) (h0 : 0 < bxs.length) (r : RI bxs k) (x : Int) : RI bxs (nextT bxs k x) := by
  have h := List.getElem?_eq_getElem (r.lt v h0)
  rw [next_some h]
  generalize bxs[k]'(r.lt v h0) = fs at h
  cases e : fs[(x % (fs.length : Int)).toNat]? with
  | none => exact .door
  | some t =>
    cases t with
    | num n => exact .door
    | box m => exact .step r h (List.mem_of_getElem? e)
theorem walk_ri {bxs : List (List Th)} (v : VB bxs) (h0 : 0 < bxs.length) : ∀ (xs : List Int) (k : Nat), RI bxs k → ∀ j ∈ walkT bxs k xs, RI bxs j
  | [], _, _, _, h => (nomatch h)
  | y :: xs, k, r, j, h => by
    rcases List.mem_cons.mp h with z | z
    · rw [z]
      exact r
    · exact walk_ri v h0 xs _ (next_ri v h0 r y) j z
theorem go_ri {bxs : List (List Th)} (v : VB bxs) (h0 : 0 < bxs.length) : ∀ (xs : List Int) (k : Nat), RI bxs k → RI bxs (goT bxs k xs)
  | [], _, r => r
  | y :: xs, k, r => go_ri v h0 xs _ (next_ri v h0 r y)
theorem rank_zero (bxs : List (List Th)) : rank bxs 0 = 0 := by
  unfold rank keptTo
  rfl
theorem next_rank {bxs : List (List Th)} {k : Nat} (v : VB bxs) (h0 : 0 < bxs.length) (r : RI bxs k) (x : Int) : nextT (kbI bxs) (rank bxs k) x = rank bxs (nextT bxs k x) := by
  have h := List.getElem?_eq_getElem (r.lt v h0)
  rw [next_some h]
  generalize bxs[k]'(r.lt v h0) = fs at h
  rw [next_some (kbI_get v h0 r h), List.length_map, List.getElem?_map]
  cases e : fs[(x % (fs.length : Int)).toNat]? with
  | none => exact (rank_zero bxs).symm
  | some t =>
    cases t with
    | num n => exact (rank_zero bxs).symm
    | box m => rfl
theorem walk_rank {bxs : List (List Th)} (v : VB bxs) (h0 : 0 < bxs.length) : ∀ (xs : List Int) (k : Nat), RI bxs k → walkT (kbI bxs) (rank bxs k) xs = (walkT bxs k xs).map (rank bxs)
  | [], _, _ => rfl
  | y :: xs, k, r => by
    show rank bxs k :: walkT (kbI bxs) (nextT (kbI bxs) (rank bxs k) y) xs = rank bxs k :: (walkT bxs (nextT bxs k y) xs).map (rank bxs)
    rw [next_rank v h0 r, walk_rank v h0 xs _ (next_ri v h0 r y)]
theorem rank_lt {bxs : List (List Th)} {j k : Nat} (v : VB bxs) (h0 : 0 < bxs.length) (rj : RI bxs j) (rk : RI bxs k) (h : j < k) : rank bxs j < rank bxs k := by
  have ej := rank_of v h0 rj
  have ek := rank_of v h0 rk
  obtain ⟨h1, e1⟩ := List.getElem?_eq_some_iff.mp ej
  obtain ⟨h2, e2⟩ := List.getElem?_eq_some_iff.mp ek
  rcases Nat.lt_trichotomy (rank bxs j) (rank bxs k) with z | z | z
  · exact z
  · rw [z, ek] at ej
    have := Option.some.inj ej
    omega
  · have := List.pairwise_iff_getElem.mp (keptT_sorted bxs) _ _ h2 h1 z
    omega
theorem rank_lt_iff {bxs : List (List Th)} {j k : Nat} (v : VB bxs) (h0 : 0 < bxs.length) (rj : RI bxs j) (rk : RI bxs k) : rank bxs j < rank bxs k ↔ j < k := by
  refine ⟨fun h => ?_, rank_lt v h0 rj rk⟩
  rcases Nat.lt_trichotomy j k with z | z | z
  · exact z
  · rw [z] at h
    omega
  · have := rank_lt v h0 rk rj z
    omega
theorem rank_lt_len {bxs : List (List Th)} {j : Nat} (v : VB bxs) (h0 : 0 < bxs.length) (rj : RI bxs j) : rank bxs j < (kbI bxs).length := by
  rw [kbI_len]
  exact (List.getElem?_eq_some_iff.mp (rank_of v h0 rj)).1
theorem pl_lt_iff {bxs : List (List Th)} {j k : Nat} (hj : j < bxs.length) : plT bxs j < plT bxs k ↔ j < k := by
  refine ⟨fun h => ?_, fun h => plT_lt h hj⟩
  rcases Nat.lt_or_ge j k with z | z
  · exact z
  · have := plT_mono (bxs := bxs) z
    omega
theorem pl_rank_lt {bxs : List (List Th)} {j k : Nat} (v : VB bxs) (h0 : 0 < bxs.length) (rj : RI bxs j) (rk : RI bxs k) : plT (kbI bxs) (rank bxs j) < plT (kbI bxs) (rank bxs k) ↔ plT bxs j < plT bxs k := by
  rw [pl_lt_iff (rank_lt_len v h0 rj), pl_lt_iff (rj.lt v h0), rank_lt_iff v h0 rj rk]
theorem pl_rank_eq {bxs : List (List Th)} {j k : Nat} (v : VB bxs) (h0 : 0 < bxs.length) (rj : RI bxs j) (rk : RI bxs k) : plT (kbI bxs) (rank bxs j) = plT (kbI bxs) (rank bxs k) ↔ plT bxs j = plT bxs k := by
  have h1 := pl_rank_lt v h0 rj rk
  have h2 := pl_rank_lt v h0 rk rj
  omega
/-! #### behind a pushing all boxes can be come to -/
theorem ri_rank {bxs : List (List Th)} (v : VB bxs) (h0 : 0 < bxs.length) {k : Nat} (r : RI bxs k) : RI (kbI bxs) (rank bxs k) := by
  induction r with
  | door => rw [rank_zero]; exact .door
  | step rj e hm ih =>
    have q := kbI_get v h0 rj e
    exact .step ih q (List.mem_map.mpr ⟨_, hm, rfl⟩)
theorem ri_kb {bxs : List (List Th)} (v : VB bxs) (h0 : 0 < bxs.length) {i : Nat} (h : i < (kbI bxs).length) : RI (kbI bxs) i := by
  rw [kbI_len] at h
  have e := List.getElem?_eq_getElem h
  have r := (keptT_mem v h0).mp (List.mem_of_getElem? e)
  rw [← rank_get e]
  exact ri_rank v h0 r
theorem kbI_all {bxs : List (List Th)} (v : VB bxs) (h0 : 0 < bxs.length) : (keptT (kbI bxs)).map (plT (kbI bxs)) = placesT 0 (kbI bxs) := by
  unfold keptT
  rw [List.filter_eq_self.mpr fun k hk => aliveT_iff.mpr (ri_kb v h0 (List.mem_range.mp hk))]
  refine List.ext_getElem? fun i => ?_
  by_cases h : i < (kbI bxs).length
  · rw [placesT_get0 h, List.getElem?_map, List.getElem?_eq_getElem (by rw [List.length_range]; exact h), List.getElem_range]
    rfl
  · rw [List.getElem?_eq_none (by rw [List.length_map, List.length_range]; omega), List.getElem?_eq_none (by rw [placesT_len]; omega)]
theorem kbI_le {bxs : List (List Th)} (v : VB bxs) (h0 : 0 < bxs.length) : sizeT (kbI bxs) ≤ sizeT bxs := by
  rw [kbI_size, ← (pushed_due v h0).2]
  have := ksize_le (alive (bsOf (pg bxs) bxs)) 0 (bsOf (pg bxs) bxs)
  rw [size_bsOf] at this
  exact this
end TS
namespace TS
/-! ### the law's own state: boxes by the law's own numbers -/
def ixT (ids : List Nat) : Th → Th
  | .num n => .num n
  | .box k => .box (ids.idxOf k)
def bxsOf (ids : List Nat) (fl : Nat → List Th) : List (List Th) := ids.map fun o => (fl o).map (ixT ids)
structure StOk (ids : List Nat) (fl : Nat → List Th) (nx : Nat) : Prop where
  nd : ids.Nodup
  hd : ids[0]? = some 0
  cl : ∀ o ∈ ids, ∀ k, Th.box k ∈ fl o → k ∈ ids
  lt : ∀ o ∈ ids, o < nx
theorem get_idx {ids : List Nat} {o : Nat} (h : o ∈ ids) : ids[ids.idxOf o]? = some o := by
  have hl := List.idxOf_lt_length_of_mem h
  rw [List.getElem?_eq_getElem hl, List.getElem_idxOf hl]
theorem nodup_get {ids : List Nat} (nd : ids.Nodup) {i j o : Nat} (hi : ids[i]? = some o) (hj : ids[j]? = some o) : i = j := by
  obtain ⟨h1, e1⟩ := List.getElem?_eq_some_iff.mp hi
  obtain ⟨h2, e2⟩ := List.getElem?_eq_some_iff.mp hj
  rcases Nat.lt_trichotomy i j with z | z | z
  · exact absurd (e1.trans e2.symm) (List.pairwise_iff_getElem.mp nd i j h1 h2 z)
  · exact z
  · exact absurd (e2.trans e1.symm) (List.pairwise_iff_getElem.mp nd j i h2 h1 z)
theorem idx_get {ids : List Nat} (nd : ids.Nodup) {i o : Nat} (h : ids[i]? = some o) : ids.idxOf o = i :=
  nodup_get nd (get_idx (List.mem_of_getElem? h)) h
theorem bxsOf_len (ids : List Nat) (fl : Nat → List Th) : (bxsOf ids fl).length = ids.length := by
  unfold bxsOf
  rw [List.length_map]
theorem bxsOf_at {ids : List Nat} {fl : Nat → List Th} {i o : Nat} (h : ids[i]? = some o) : (bxsOf ids fl)[i]? = some ((fl o).map (ixT ids)) := by
  unfold bxsOf
  rw [List.getElem?_map, h]
  rfl
theorem bxsOf_get {ids : List Nat} {fl : Nat → List Th} {o : Nat} (h : o ∈ ids) : (bxsOf ids fl)[ids.idxOf o]? = some ((fl o).map (ixT ids)) := bxsOf_at (get_idx h)
theorem bxsOf_inv {ids : List Nat} {fl : Nat → List Th} {i : Nat} {fs : List Th} (h : (bxsOf ids fl)[i]? = some fs) : ∃ o, ids[i]? = some o ∧ fs = (fl o).map (ixT ids) := by
  unfold bxsOf at h
  rw [List.getElem?_map] at h
  cases e : ids[i]? with
  | none => rw [e] at h; cases h
  | some o => rw [e] at h; exact ⟨o, rfl, (Option.some.inj h).symm⟩
theorem ixT_box {ids : List Nat} {fs : List Th} {k : Nat} (h : Th.box k ∈ fs.map (ixT ids)) : ∃ m, Th.box m ∈ fs ∧ k = ids.idxOf m := by
  obtain ⟨t, ht, e⟩ := List.mem_map.mp h
  cases t with
  | num n => cases e
  | box m => exact ⟨m, ht, (Th.box.inj e).symm⟩
theorem st_vb {ids : List Nat} {fl : Nat → List Th} {nx : Nat} (s : StOk ids fl nx) : VB (bxsOf ids fl) := fun fs hf k hk => by
  obtain ⟨i, hi, ei⟩ := List.mem_iff_getElem.mp hf
  obtain ⟨o, ho, rfl⟩ := bxsOf_inv (by rw [List.getElem?_eq_getElem hi, ei])
  obtain ⟨m, hm, rfl⟩ := ixT_box hk
  rw [bxsOf_len]
  exact List.idxOf_lt_length_of_mem (s.cl o (List.mem_of_getElem? ho) m hm)
theorem st_mem0 {ids : List Nat} {fl : Nat → List Th} {nx : Nat} (s : StOk ids fl nx) : 0 ∈ ids := List.mem_of_getElem? s.hd
theorem st_ne {ids : List Nat} {fl : Nat → List Th} {nx : Nat} (s : StOk ids fl nx) : 0 < (bxsOf ids fl).length := by
  rw [bxsOf_len]
  exact (List.getElem?_eq_some_iff.mp s.hd).1
/-- the place of a box, by the law's number -/
def plI (ids : List Nat) (fl : Nat → List Th) (o : Nat) : Nat := plT (bxsOf ids fl) (ids.idxOf o)
def handT (g : Nat → Nat) : Th → Th
  | .num n => .num n
  | .box k => .box (g k)
theorem hand_pl {ids : List Nat} {fl : Nat → List Th} {th : Th} : toPl (bxsOf ids fl) (ixT ids th) = handT (plI ids fl) th := by cases th <;> rfl
theorem hand_pls {ids : List Nat} {fl : Nat → List Th} {ths : List Th} : (ths.map (ixT ids)).map (toPl (bxsOf ids fl)) = ths.map (handT (plI ids fl)) := by
  rw [List.map_map]
  exact List.map_congr_left fun t _ => hand_pl
theorem places_ids {ids : List Nat} {fl : Nat → List Th} (nd : ids.Nodup) : placesT 0 (bxsOf ids fl) = ids.map (plI ids fl) := by
  refine List.ext_getElem? fun i => ?_
  by_cases h : i < ids.length
  · have e := List.getElem?_eq_getElem h
    rw [placesT_get0 (by rw [bxsOf_len]; exact h), List.getElem?_map, e]
    show _ = some (plT (bxsOf ids fl) (ids.idxOf ids[i]))
    rw [idx_get nd e]
  · rw [List.getElem?_eq_none (by rw [placesT_len, bxsOf_len]; omega), List.getElem?_eq_none (by rw [List.length_map]; omega)]
theorem pl_zero {ids : List Nat} {fl : Nat → List Th} {nx : Nat} (s : StOk ids fl nx) : plI ids fl 0 = 0 := by
  unfold plI
  rw [idx_get s.nd s.hd]
  exact plT_zero
/-! #### a box more -/
def setF (fl : Nat → List Th) (o : Nat) (fs : List Th) : Nat → List Th := fun x => if x = o then fs else fl x
theorem idx_app {ids : List Nat} {k : Nat} (l : List Nat) (h : k ∈ ids) : (ids ++ l).idxOf k = ids.idxOf k := by
  rw [List.idxOf_append, if_pos h]
theorem ixT_app {ids l : List Nat} {ths : List Th} (h : ∀ k, Th.box k ∈ ths → k ∈ ids) : ths.map (ixT (ids ++ l)) = ths.map (ixT ids) :=
  List.map_congr_left fun t ht => by
    cases t with
    | num n => rfl
    | box k =>
      show Th.box _ = Th.box _
      rw [idx_app l (h k ht)]
theorem made_bxs {ids : List Nat} {fl : Nat → List Th} {nx : Nat} {ths : List Th} (s : StOk ids fl nx) (ht : ∀ k, Th.box k ∈ ths → k ∈ ids) : bxsOf (ids ++ [nx]) (setF fl nx ths) = bxsOf ids fl ++ [ths.map (ixT ids)] := by
  unfold bxsOf
  rw [List.map_append]
  congr 1
  · refine List.map_congr_left fun o ho => ?_
    have hne : ¬ o = nx := fun z => by
      have := s.lt o ho
      omega
    unfold setF
    rw [if_neg hne]
    exact ixT_app fun k hk => s.cl o ho k hk
  · show [(setF fl nx ths nx).map (ixT (ids ++ [nx]))] = _
    unfold setF
    rw [if_pos rfl, ixT_app ht]
theorem made_st {ids : List Nat} {fl : Nat → List Th} {nx : Nat} {ths : List Th} (s : StOk ids fl nx) (ht : ∀ k, Th.box k ∈ ths → k ∈ ids) : StOk (ids ++ [nx]) (setF fl nx ths) (nx + 1) := by
  have hx : nx ∉ ids := fun z => by
    have := s.lt nx z
    omega
  refine ⟨List.nodup_append.mpr ⟨s.nd, by simp, fun a ha b hb z => ?_⟩, ?_, fun o ho k hk => ?_, fun o ho => ?_⟩
  · have : b = nx := by simpa using hb
    subst this
    exact hx (z ▸ ha)
  · rw [List.getElem?_append_left (List.getElem?_eq_some_iff.mp s.hd).1]
    exact s.hd
  · refine List.mem_append_left _ ?_
    unfold setF at hk
    by_cases z : o = nx
    · rw [if_pos z] at hk
      exact ht k hk
    · rw [if_neg z] at hk
      rcases List.mem_append.mp ho with q | q
      · exact s.cl o q k hk
      · exact absurd (by simpa using q) z
  · rcases List.mem_append.mp ho with q | q
    · have := s.lt o q
      omega
    · have : o = nx := by simpa using q
      omega
/-! #### another thing -/
theorem put_bxs {ids : List Nat} {fl : Nat → List Th} {nx o f : Nat} {th : Th} (s : StOk ids fl nx) (ho : o ∈ ids) : bxsOf ids (setF fl o ((fl o).set f th)) = (bxsOf ids fl).set (ids.idxOf o) (((fl o).map (ixT ids)).set f (ixT ids th)) := by
  refine List.ext_getElem? fun i => ?_
  by_cases z : ids.idxOf o = i
  · subst z
    rw [List.getElem?_set_self (by rw [bxsOf_len]; exact List.idxOf_lt_length_of_mem ho), bxsOf_get ho]
    unfold setF
    rw [if_pos rfl, List.map_set]
  · rw [List.getElem?_set_ne z]
    by_cases h : i < ids.length
    · have e := List.getElem?_eq_getElem h
      have hne : ¬ ids[i] = o := fun q => z (idx_get s.nd (q ▸ e))
      rw [bxsOf_at e, bxsOf_at e]
      unfold setF
      rw [if_neg hne]
    · rw [List.getElem?_eq_none (by rw [bxsOf_len]; omega), List.getElem?_eq_none (by rw [bxsOf_len]; omega)]
theorem put_st {ids : List Nat} {fl : Nat → List Th} {nx o f : Nat} {th : Th} (s : StOk ids fl nx) (ho : o ∈ ids) (ht : ∀ k, th = .box k → k ∈ ids) : StOk ids (setF fl o ((fl o).set f th)) nx := by
  refine ⟨s.nd, s.hd, fun a ha k hk => ?_, s.lt⟩
  unfold setF at hk
  by_cases z : a = o
  · rw [if_pos z] at hk
    rcases List.mem_or_eq_of_mem_set hk with q | q
    · exact s.cl o ho k q
    · exact ht k q.symm
  · rw [if_neg z] at hk
    exact s.cl a ha k hk
/-! #### those that can be come to -/
noncomputable def kin (ids : List Nat) (fl : Nat → List Th) : List Nat := ids.filter fun o => aliveT (bxsOf ids fl) (ids.idxOf o)
theorem idx_range {ids : List Nat} (nd : ids.Nodup) : ids.map ids.idxOf = List.range ids.length := by
  refine List.ext_getElem? fun i => ?_
  by_cases h : i < ids.length
  · have e := List.getElem?_eq_getElem h
    rw [List.getElem?_map, e, List.getElem?_eq_getElem (by rw [List.length_range]; exact h), List.getElem_range]
    show some (ids.idxOf ids[i]) = some i
    rw [idx_get nd e]
  · rw [List.getElem?_eq_none (by rw [List.length_map]; omega), List.getElem?_eq_none (by rw [List.length_range]; omega)]
theorem kin_idx {ids : List Nat} {fl : Nat → List Th} (nd : ids.Nodup) : (kin ids fl).map ids.idxOf = keptT (bxsOf ids fl) := by
  unfold kin keptT
  rw [bxsOf_len, ← idx_range nd, List.filter_map]
  rfl
theorem kin_places {ids : List Nat} {fl : Nat → List Th} (nd : ids.Nodup) : (kin ids fl).map (plI ids fl) = (keptT (bxsOf ids fl)).map (plT (bxsOf ids fl)) := by
  rw [← kin_idx nd, List.map_map]
  rfl
/-- come to, by the law's numbers -/
inductive RJ (fl : Nat → List Th) : Nat → Prop
  | door : RJ fl 0
  | step {i k : Nat} (a : RJ fl i) (m : Th.box k ∈ fl i) : RJ fl k
theorem RJ.mem {ids : List Nat} {fl : Nat → List Th} {nx o : Nat} (s : StOk ids fl nx) (r : RJ fl o) : o ∈ ids := by
  induction r with
  | door => exact st_mem0 s
  | step a m ih => exact s.cl _ ih _ m
theorem RJ.ri {ids : List Nat} {fl : Nat → List Th} {nx o : Nat} (s : StOk ids fl nx) (r : RJ fl o) : RI (bxsOf ids fl) (ids.idxOf o) := by
  induction r with
  | door =>
    rw [idx_get s.nd s.hd]
    exact .door
  | step a m ih => exact .step ih (bxsOf_get (a.mem s)) (List.mem_map.mpr ⟨_, m, rfl⟩)
theorem RI.rj {ids : List Nat} {fl : Nat → List Th} {nx i : Nat} (s : StOk ids fl nx) (r : RI (bxsOf ids fl) i) : ∀ o, ids[i]? = some o → RJ fl o := by
  induction r with
  | door =>
    intro o ho
    rw [s.hd] at ho
    cases Option.some.inj ho
    exact .door
  | step a e m ih =>
    intro o ho
    obtain ⟨o', ho', rfl⟩ := bxsOf_inv e
    obtain ⟨q, hq, rfl⟩ := ixT_box m
    rw [get_idx (s.cl _ (List.mem_of_getElem? ho') _ hq)] at ho
    cases Option.some.inj ho
    exact .step (ih _ ho') hq
theorem rj_iff {ids : List Nat} {fl : Nat → List Th} {nx o : Nat} (s : StOk ids fl nx) (h : o ∈ ids) : RJ fl o ↔ RI (bxsOf ids fl) (ids.idxOf o) := ⟨fun r => r.ri s, fun r => r.rj s o (get_idx h)⟩
theorem kin_mem {ids : List Nat} {fl : Nat → List Th} {nx o : Nat} (s : StOk ids fl nx) : o ∈ kin ids fl ↔ RJ fl o := by
  unfold kin
  rw [List.mem_filter, aliveT_iff]
  exact ⟨fun h => (rj_iff s h.1).mpr h.2, fun r => ⟨r.mem s, r.ri s⟩⟩
theorem sub_len : ∀ (F ids : List Nat), F.Nodup → (∀ x ∈ F, x ∈ ids) → F.length ≤ ids.length
  | [], _, _, _ => Nat.zero_le _
  | x :: F, ids, nd, h => by
    have n := List.nodup_cons.mp nd
    have h1 := sub_len F (ids.erase x) n.2 fun y hy => by
      have e : y ≠ x := fun z => n.1 (z ▸ hy)
      exact (List.mem_erase_of_ne e).mpr (h y (List.mem_cons_of_mem _ hy))
    rw [List.length_erase_of_mem (h x List.mem_cons_self)] at h1
    have := List.length_pos_of_mem (h x List.mem_cons_self)
    show F.length + 1 ≤ _
    omega
/-- the law's search by its own numbers -/
structure Bj (fl : Nat → List Th) (F : List Nat) (t : Nat) : Prop where
  nd : F.Nodup
  zero : 0 ∈ F
  re : ∀ k ∈ F, RJ fl k
  dn : ∀ i k0 k, i < t → F[i]? = some k0 → Th.box k ∈ fl k0 → k ∈ F
theorem Bj.start {fl : Nat → List Th} : Bj fl [0] 0 := ⟨by simp, by simp, fun k hk => by
  have : k = 0 := by simpa using hk
  subst this
  exact .door, fun i _ _ h => absurd h (Nat.not_lt_zero _)⟩
theorem Bj.add {fl : Nat → List Th} {F : List Nat} {t k : Nat} (b : Bj fl F t) (ht : t ≤ F.length) (nk : k ∉ F) (r : RJ fl k) : Bj fl (F ++ [k]) t := by
  refine ⟨List.nodup_append.mpr ⟨b.nd, by simp, fun x hx y hy z => ?_⟩, List.mem_append_left _ b.zero, fun j hj => ?_, fun i k0 j hi e m => ?_⟩
  · have : y = k := by simpa using hy
    subst this
    exact nk (z ▸ hx)
  · rcases List.mem_append.mp hj with z | z
    · exact b.re j z
    · have : j = k := by simpa using z
      subst this
      exact r
  · rw [List.getElem?_append_left (by omega)] at e
    exact List.mem_append_left _ (b.dn i k0 j hi e m)
theorem Bj.next {fl : Nat → List Th} {F : List Nat} {t k0 : Nat} (b : Bj fl F t) (e : F[t]? = some k0) (h : ∀ k, Th.box k ∈ fl k0 → k ∈ F) : Bj fl F (t + 1) :=
  ⟨b.nd, b.zero, b.re, fun i k1 k hi e3 m => by
    by_cases z : i < t
    · exact b.dn i k1 k z e3 m
    · have : i = t := by omega
      subst this
      rw [e] at e3
      cases Option.some.inj e3
      exact h k m⟩
theorem Bj.skip {fl : Nat → List Th} {F : List Nat} {t : Nat} (b : Bj fl F t) (h : F.length ≤ t) : Bj fl F (t + 1) :=
  ⟨b.nd, b.zero, b.re, fun i k1 k hi e m => b.dn i k1 k (by have := (List.getElem?_eq_some_iff.mp e).1; omega) e m⟩
theorem Bj.len {ids : List Nat} {fl : Nat → List Th} {nx t : Nat} {F : List Nat} (s : StOk ids fl nx) (b : Bj fl F t) : F.length ≤ ids.length := sub_len F ids b.nd fun x hx => (b.re x hx).mem s
theorem Bj.all {ids : List Nat} {fl : Nat → List Th} {nx : Nat} {F : List Nat} (s : StOk ids fl nx) (b : Bj fl F ids.length) (k : Nat) : k ∈ F ↔ RJ fl k := by
  refine ⟨b.re k, fun r => ?_⟩
  have hl := b.len s
  induction r with
  | door => exact b.zero
  | step a m ih =>
    obtain ⟨j, hj, ej⟩ := List.mem_iff_getElem.mp ih
    exact b.dn j _ _ (by omega) (by rw [List.getElem?_eq_getElem hj, ej]) m
theorem kin_of {ids : List Nat} {fl : Nat → List Th} {nx : Nat} {F : List Nat} (s : StOk ids fl nx) (b : Bj fl F ids.length) : ids.filter (fun o => decide (o ∈ F)) = kin ids fl := by
  unfold kin
  refine List.filter_congr fun o ho => ?_
  have h1 := (b.all s o).trans (rj_iff s ho)
  by_cases z : o ∈ F
  · rw [decide_eq_true z, aliveT_iff.mpr (h1.mp z)]
  · rw [decide_eq_false z]
    cases e : aliveT (bxsOf ids fl) (ids.idxOf o) with
    | false => rfl
    | true => exact absurd (h1.mpr (aliveT_iff.mp e)) z
/-! #### pushed together -/
theorem idx_ne {x m : Nat} {r : List Nat} (z : ¬ x = m) : (x :: r).idxOf m = r.idxOf m + 1 := by
  rw [List.idxOf_cons, beq_eq_false_iff_ne.mpr z]
  rfl
theorem idx_filter {p : Nat → Bool} : ∀ {ids : List Nat}, ids.Nodup → ∀ {m : Nat}, m ∈ ids → p m = true → (ids.filter p).idxOf m = ((ids.take (ids.idxOf m)).filter p).length
  | [], _, m, h, _ => nomatch h
  | x :: r, nd, m, h, hp => by
    have n := List.nodup_cons.mp nd
    by_cases z : x = m
    · subst z
      rw [List.filter_cons_of_pos hp, List.idxOf_cons_self, List.idxOf_cons_self]
      rfl
    · have hm : m ∈ r := by
        rcases List.mem_cons.mp h with q | q
        · exact absurd q.symm z
        · exact q
      rw [idx_ne z, List.take_succ_cons]
      by_cases q : p x = true
      · rw [List.filter_cons_of_pos q, List.filter_cons_of_pos q, idx_ne z, idx_filter n.2 hm hp]
        rfl
      · rw [List.filter_cons_of_neg q, List.filter_cons_of_neg q, idx_filter n.2 hm hp]
theorem pushed_idx {ids : List Nat} {fl : Nat → List Th} {nx m : Nat} (s : StOk ids fl nx) (r : RJ fl m) : (kin ids fl).idxOf m = rank (bxsOf ids fl) (ids.idxOf m) := by
  have hm := r.mem s
  have hl := List.idxOf_lt_length_of_mem hm
  unfold kin
  rw [idx_filter (p := fun o => aliveT (bxsOf ids fl) (ids.idxOf o)) s.nd hm (aliveT_iff.mpr (r.ri s))]
  unfold rank keptTo
  rw [show ((ids.take (ids.idxOf m)).filter fun o => aliveT (bxsOf ids fl) (ids.idxOf o)).length = (((ids.take (ids.idxOf m)).map ids.idxOf).filter (aliveT (bxsOf ids fl))).length by rw [List.filter_map, List.length_map]; rfl]
  rw [List.map_take, idx_range s.nd, List.take_range, Nat.min_eq_left (by omega)]
theorem pushed_bxs {ids : List Nat} {fl : Nat → List Th} {nx : Nat} (s : StOk ids fl nx) : bxsOf (kin ids fl) fl = kbI (bxsOf ids fl) := by
  have v := st_vb s
  have h0 := st_ne s
  refine List.ext_getElem? fun i => ?_
  by_cases h : i < (kin ids fl).length
  · have e := List.getElem?_eq_getElem h
    have r := (kin_mem s).mp (List.mem_of_getElem? e)
    have ei : rank (bxsOf ids fl) (ids.idxOf (kin ids fl)[i]) = i := by
      rw [← pushed_idx s r]
      refine idx_get ?_ e
      unfold kin
      exact s.nd.filter _
    have q := kbI_get v h0 (r.ri s) (bxsOf_get (fl := fl) (r.mem s))
    rw [ei] at q
    rw [q, bxsOf_at e, List.map_map]
    refine congrArg some (List.map_congr_left fun t ht => ?_)
    cases t with
    | num n => rfl
    | box m =>
      show Th.box _ = Th.box _
      rw [pushed_idx s (.step r ht)]
  · have e1 : (keptT (bxsOf ids fl)).length = (kin ids fl).length := by rw [← kin_idx s.nd, List.length_map]
    rw [List.getElem?_eq_none (by rw [bxsOf_len]; omega), List.getElem?_eq_none (by rw [kbI_len, e1]; omega)]
theorem pushed_st {ids : List Nat} {fl : Nat → List Th} {nx : Nat} (s : StOk ids fl nx) : StOk (kin ids fl) fl nx := by
  refine ⟨?_, ?_, fun o ho k hk => ?_, fun o ho => ?_⟩
  · unfold kin
    exact s.nd.filter _
  · have ha : aliveT (bxsOf ids fl) (ids.idxOf 0) = true := aliveT_iff.mpr (by rw [idx_get s.nd s.hd]; exact .door)
    unfold kin
    cases ids with
    | nil => exact absurd s.hd (by simp)
    | cons x r =>
      have e : x = 0 := by simpa using s.hd
      subst e
      rw [List.filter_cons_of_pos (p := fun o => aliveT (bxsOf (0 :: r) fl) ((0 :: r).idxOf o)) ha]
      rfl
  · exact (kin_mem s).mpr (.step ((kin_mem s).mp ho) hk)
  · unfold kin at ho
    exact s.lt o (List.mem_filter.mp ho).1
end TS
namespace TS
/-! ### pushed together again; what goes -/
theorem kin_kin {ids : List Nat} {fl : Nat → List Th} {nx : Nat} (s : StOk ids fl nx) : kin (kin ids fl) fl = kin ids fl := by
  have s2 := pushed_st s
  refine List.filter_eq_self.mpr fun o ho => ?_
  have r := (kin_mem s).mp ho
  exact aliveT_iff.mpr ((rj_iff s2 ho).mp r)
theorem size_ids (ids : List Nat) (fl : Nat → List Th) : sizeT (bxsOf ids fl) = sizeT (ids.map fl) := by
  have e : bxsOf ids fl = (ids.map fl).map fun fs => fs.map (ixT ids) := by
    rw [List.map_map]
    rfl
  rw [e, sizeT_mapT]
theorem size_split (p : Nat → Bool) (fl : Nat → List Th) : ∀ l : List Nat, sizeT ((l.filter p).map fl) + sizeT ((l.filter fun o => !p o).map fl) = sizeT (l.map fl)
  | [] => rfl
  | o :: l => by
    have ih := size_split p fl l
    rw [List.map_cons]
    show _ = 1 + (fl o).length + sizeT (l.map fl)
    cases h : p o with
    | true =>
      rw [List.filter_cons_of_pos h, List.filter_cons_of_neg (by rw [h]; decide), List.map_cons]
      show 1 + (fl o).length + sizeT ((l.filter p).map fl) + _ = _
      omega
    | false =>
      rw [List.filter_cons_of_neg (by rw [h]; decide), List.filter_cons_of_pos (by rw [h]; decide), List.map_cons]
      show _ + (1 + (fl o).length + sizeT ((l.filter fun o => !p o).map fl)) = _
      omega
theorem kin_filter {ids : List Nat} {fl : Nat → List Th} {nx : Nat} (s : StOk ids fl nx) : ids.filter (fun o => decide (o ∈ kin ids fl)) = kin ids fl := by
  have e : kin ids fl = ids.filter fun o => aliveT (bxsOf ids fl) (ids.idxOf o) := rfl
  conv => rhs; rw [e]
  refine List.filter_congr fun o ho => ?_
  cases h : aliveT (bxsOf ids fl) (ids.idxOf o) with
  | true => exact decide_eq_true (List.mem_filter.mpr ⟨ho, h⟩)
  | false =>
    refine decide_eq_false fun z => ?_
    have := (List.mem_filter.mp (show o ∈ ids.filter fun o => aliveT (bxsOf ids fl) (ids.idxOf o) from z)).2
    rw [h] at this
    cases this
/-- what goes -/
theorem gone_size {ids : List Nat} {fl : Nat → List Th} {nx : Nat} (s : StOk ids fl nx) :
    (sizeT ((ids.filter fun o => !decide (o ∈ kin ids fl)).map fl) : Int) = (sizeT (bxsOf ids fl) : Int) - (sizeT (kbI (bxsOf ids fl)) : Int) := by
  have h := size_split (fun o => decide (o ∈ kin ids fl)) fl ids
  rw [kin_filter s, ← size_ids (kin ids fl) fl, ← size_ids ids fl, pushed_bxs s] at h
  omega
theorem kbI_kin {ids : List Nat} {fl : Nat → List Th} {nx : Nat} (s : StOk ids fl nx) : kbI (bxsOf (kin ids fl) fl) = bxsOf (kin ids fl) fl := by
  rw [← pushed_bxs (pushed_st s), kin_kin s]
theorem kin_sub {ids : List Nat} {fl : Nat → List Th} {o : Nat} (h : o ∈ kin ids fl) : o ∈ ids := (List.mem_filter.mp (show o ∈ ids.filter fun o => aliveT (bxsOf ids fl) (ids.idxOf o) from h)).1
/-- all places are those of boxes -/
theorem no_place {ids : List Nat} {fl : Nat → List Th} {z : Int} (nd : ids.Nodup) (h : ∀ o ∈ ids, (plI ids fl o : Int) ≠ z) : ∀ k, k < (bxsOf ids fl).length → (plT (bxsOf ids fl) k : Int) ≠ z := by
  intro k hk
  rw [bxsOf_len] at hk
  have e := List.getElem?_eq_getElem hk
  have q := h ids[k] (List.getElem_mem hk)
  unfold plI at q
  rw [idx_get nd e] at q
  exact q
end TS

namespace Mine
open PySem PySem.Spec PyProof.Rows L2 TS
/-! ### the text -/
def topS (i : Nat) : Stmt := PySem.Challenge.pw_threadslide_k08_whole_rooms.main.body.getD i (.Pass ⟨0, 0, 0, 0⟩)
abbrev s_number_word : Stmt := topS 8
theorem sc_number_word : FnScope ["n"] ["n"] (defScope s_number_word) := ⟨rfl, rfl, rfl, by decide +kernel, rfl, by decide +kernel, by decide +kernel⟩
abbrev s_link_word : Stmt := topS 9
theorem sc_link_word : FnScope ["place"] ["place"] (defScope s_link_word) := ⟨rfl, rfl, rfl, by decide +kernel, rfl, by decide +kernel, by decide +kernel⟩
abbrev s_head_word : Stmt := topS 10
theorem sc_head_word : FnScope ["many", "marked"] ["many", "marked"] (defScope s_head_word) := ⟨rfl, rfl, rfl, by decide +kernel, rfl, by decide +kernel, by decide +kernel⟩
abbrev s_is_link : Stmt := topS 11
theorem sc_is_link : FnScope ["word"] ["word"] (defScope s_is_link) := ⟨rfl, rfl, rfl, by decide +kernel, rfl, by decide +kernel, by decide +kernel⟩
abbrev s_told_by : Stmt := topS 12
theorem sc_told_by : FnScope ["word"] ["word"] (defScope s_told_by) := ⟨rfl, rfl, rfl, by decide +kernel, rfl, by decide +kernel, by decide +kernel⟩
abbrev s_fields_of : Stmt := topS 13
theorem sc_fields_of : FnScope ["head"] ["head"] (defScope s_fields_of) := ⟨rfl, rfl, rfl, by decide +kernel, rfl, by decide +kernel, by decide +kernel⟩
abbrev s_is_marked : Stmt := topS 14
theorem sc_is_marked : FnScope ["head"] ["head"] (defScope s_is_marked) := ⟨rfl, rfl, rfl, by decide +kernel, rfl, by decide +kernel, by decide +kernel⟩
abbrev s_hung : Stmt := topS 16
theorem sc_hung : FnScope ["row", "at", "cells", "head"] ["row", "at"] (defScope s_hung) := ⟨rfl, rfl, rfl, by decide +kernel, rfl, by decide +kernel, by decide +kernel⟩
abbrev s_led : Stmt := topS 17
theorem sc_led : FnScope ["row", "head", "place", "cells", "at"] ["row", "head", "place"] (defScope s_led) := ⟨rfl, rfl, rfl, by decide +kernel, rfl, by decide +kernel, by decide +kernel⟩
abbrev s_heads : Stmt := topS 19
theorem sc_heads : FnScope ["row", "used", "found", "at"] ["row", "used"] (defScope s_heads) := ⟨rfl, rfl, rfl, by decide +kernel, rfl, by decide +kernel, by decide +kernel⟩
abbrev s_marked : Stmt := topS 20
theorem sc_marked : FnScope ["row", "used", "cells", "waiting", "head", "at", "goal"] ["row", "used"] (defScope s_marked) := ⟨rfl, rfl, rfl, by decide +kernel, rfl, by decide +kernel, by decide +kernel⟩
abbrev s_stays : Stmt := topS 21
theorem sc_stays : FnScope ["word"] ["word"] (defScope s_stays) := ⟨rfl, rfl, rfl, by decide +kernel, rfl, by decide +kernel, by decide +kernel⟩
abbrev s_hung_up : Stmt := topS 22
theorem sc_hung_up : FnScope ["row", "used", "cells", "at", "free", "many", "field"] ["row", "used"] (defScope s_hung_up) := ⟨rfl, rfl, rfl, by decide +kernel, rfl, by decide +kernel, by decide +kernel⟩
abbrev s_slid : Stmt := topS 23
theorem sc_slid : FnScope ["row", "used", "cells", "at", "free", "many", "k"] ["row", "used"] (defScope s_slid) := ⟨rfl, rfl, rfl, by decide +kernel, rfl, by decide +kernel, by decide +kernel⟩
abbrev s_pushed : Stmt := topS 24
theorem sc_pushed : FnScope ["row", "used"] ["row", "used"] (defScope s_pushed) := ⟨rfl, rfl, rfl, by decide +kernel, rfl, by decide +kernel, by decide +kernel⟩
abbrev s_is_whole : Stmt := topS 29
theorem sc_is_whole : FnScope ["value"] ["value"] (defScope s_is_whole) := ⟨rfl, rfl, rfl, by decide +kernel, rfl, by decide +kernel, by decide +kernel⟩
abbrev s_need_thing : Stmt := topS 30
theorem sc_need_thing : FnScope ["thing"] ["thing"] (defScope s_need_thing) := ⟨rfl, rfl, rfl, by decide +kernel, rfl, by decide +kernel, by decide +kernel⟩
abbrev s_thing_of : Stmt := topS 31
theorem sc_thing_of : FnScope ["word"] ["word"] (defScope s_thing_of) := ⟨rfl, rfl, rfl, by decide +kernel, rfl, by decide +kernel, by decide +kernel⟩
abbrev s_Rinit : Stmt := inClass (topS 32) 0
theorem sc_Rinit : FnScope ["self", "size", "doors"] ["self", "size", "doors"] (defScope s_Rinit) := ⟨rfl, rfl, rfl, by decide +kernel, rfl, by decide +kernel, by decide +kernel⟩
abbrev s_Rneed_box : Stmt := inClass (topS 32) 1
theorem sc_Rneed_box : FnScope ["self", "place"] ["self", "place"] (defScope s_Rneed_box) := ⟨rfl, rfl, rfl, by decide +kernel, rfl, by decide +kernel, by decide +kernel⟩
abbrev s_Rword_of : Stmt := inClass (topS 32) 2
theorem sc_Rword_of : FnScope ["self", "thing"] ["self", "thing"] (defScope s_Rword_of) := ⟨rfl, rfl, rfl, by decide +kernel, rfl, by decide +kernel, by decide +kernel⟩
abbrev s_Rmade : Stmt := inClass (topS 32) 3
theorem sc_Rmade : FnScope ["self", "things", "thing", "words", "place"] ["self", "things"] (defScope s_Rmade) := ⟨rfl, rfl, rfl, by decide +kernel, rfl, by decide +kernel, by decide +kernel⟩
abbrev s_Rput : Stmt := inClass (topS 32) 4
theorem sc_Rput : FnScope ["self", "place", "field", "thing"] ["self", "place", "field", "thing"] (defScope s_Rput) := ⟨rfl, rfl, rfl, by decide +kernel, rfl, by decide +kernel, by decide +kernel⟩
abbrev s_Rtold : Stmt := inClass (topS 32) 5
theorem sc_Rtold : FnScope ["self", "place", "word"] ["self", "place"] (defScope s_Rtold) := ⟨rfl, rfl, rfl, by decide +kernel, rfl, by decide +kernel, by decide +kernel⟩
abbrev s_Rplaces : Stmt := inClass (topS 32) 6
theorem sc_Rplaces : FnScope ["self"] ["self"] (defScope s_Rplaces) := ⟨rfl, rfl, rfl, by decide +kernel, rfl, by decide +kernel, by decide +kernel⟩
abbrev s_Rcome_to : Stmt := inClass (topS 32) 7
theorem sc_Rcome_to : FnScope ["self", "row", "place"] ["self"] (defScope s_Rcome_to) := ⟨rfl, rfl, rfl, by decide +kernel, rfl, by decide +kernel, by decide +kernel⟩
abbrev s_Rpushed : Stmt := inClass (topS 32) 8
theorem sc_Rpushed : FnScope ["self", "before", "found"] ["self"] (defScope s_Rpushed) := ⟨rfl, rfl, rfl, by decide +kernel, rfl, by decide +kernel, by decide +kernel⟩
abbrev s_Rused : Stmt := inClass (topS 32) 9
theorem sc_Rused : FnScope ["self"] ["self"] (defScope s_Rused) := ⟨rfl, rfl, rfl, by decide +kernel, rfl, by decide +kernel, by decide +kernel⟩
abbrev s_Rcells : Stmt := inClass (topS 32) 10
theorem sc_Rcells : FnScope ["self"] ["self"] (defScope s_Rcells) := ⟨rfl, rfl, rfl, by decide +kernel, rfl, by decide +kernel, by decide +kernel⟩
abbrev s_l_at : Stmt := topS 34
theorem sc_l_at : FnScope ["_law_script", "_law_place"] ["_law_script", "_law_place"] (defScope s_l_at) := ⟨rfl, rfl, rfl, by decide +kernel, rfl, by decide +kernel, by decide +kernel⟩
abbrev s_l_is_int : Stmt := topS 35
theorem sc_l_is_int : FnScope ["_law_value"] ["_law_value"] (defScope s_l_is_int) := ⟨rfl, rfl, rfl, by decide +kernel, rfl, by decide +kernel, by decide +kernel⟩
abbrev s_l_words_are : Stmt := topS 36
theorem sc_l_words_are : FnScope ["_law_found", "_law_due", "_law_k"] ["_law_found", "_law_due"] (defScope s_l_words_are) := ⟨rfl, rfl, rfl, by decide +kernel, rfl, by decide +kernel, by decide +kernel⟩
abbrev s_l_number : Stmt := topS 37
theorem sc_l_number : FnScope ["_law_seed"] ["_law_seed"] (defScope s_l_number) := ⟨rfl, rfl, rfl, by decide +kernel, rfl, by decide +kernel, by decide +kernel⟩
abbrev s_l_places_of : Stmt := topS 38
theorem sc_l_places_of : FnScope ["_law_order", "_law_fields", "_law_found", "_law_at_here", "_law_one"] ["_law_order", "_law_fields"] (defScope s_l_places_of) := ⟨rfl, rfl, rfl, by decide +kernel, rfl, by decide +kernel, by decide +kernel⟩
abbrev s_l_cells_of : Stmt := topS 39
theorem sc_l_cells_of : FnScope ["_law_order", "_law_fields", "_law_size", "_law_places", "_law_row", "_law_one", "_law_thing_here"] ["_law_order", "_law_fields", "_law_size"] (defScope s_l_cells_of) := ⟨rfl, rfl, rfl, by decide +kernel, rfl, by decide +kernel, by decide +kernel⟩
abbrev s_l_thing : Stmt := topS 40
theorem sc_l_thing : FnScope ["_law_seed", "_law_order"] ["_law_seed", "_law_order"] (defScope s_l_thing) := ⟨rfl, rfl, rfl, by decide +kernel, rfl, by decide +kernel, by decide +kernel⟩
abbrev s_l_handed : Stmt := topS 41
theorem sc_l_handed : FnScope ["_law_thing_here", "_law_places"] ["_law_thing_here", "_law_places"] (defScope s_l_handed) := ⟨rfl, rfl, rfl, by decide +kernel, rfl, by decide +kernel, by decide +kernel⟩
abbrev s_l_come_to : Stmt := topS 42
theorem sc_l_come_to : FnScope ["_law_order", "_law_fields", "_law_found", "_law_turn", "_law_thing_here", "_law_one"] ["_law_order", "_law_fields"] (defScope s_l_come_to) := ⟨rfl, rfl, rfl, by decide +kernel, rfl, by decide +kernel, by decide +kernel⟩
abbrev s_l_many : Stmt := topS 43
theorem sc_l_many : FnScope ["_law_cell", "_law_seed"] ["_law_cell", "_law_seed"] (defScope s_l_many) := ⟨rfl, rfl, rfl, by decide +kernel, rfl, by decide +kernel, by decide +kernel⟩
abbrev s_l_made : Stmt := topS 44
theorem sc_l_made : FnScope ["_law_room", "_law_state", "_law_cell", "_law_seed", "_law_order", "_law_fields", "_law_seeds", "_law_k", "_law_things", "_law_one", "_law_places", "_law_used", "_law_due", "_law_thing_here", "_law_handed_here", "_law_found", "_law_fresh"] ["_law_room", "_law_state", "_law_cell", "_law_seed"] (defScope s_l_made) := ⟨rfl, rfl, rfl, by decide +kernel, rfl, by decide +kernel, by decide +kernel⟩
abbrev s_l_put : Stmt := topS 45
theorem sc_l_put : FnScope ["_law_room", "_law_state", "_law_seed", "_law_order", "_law_fields", "_law_one", "_law_field", "_law_thing_here", "_law_places", "_law_other", "_law_found", "_law_row"] ["_law_room", "_law_state", "_law_seed"] (defScope s_l_put) := ⟨rfl, rfl, rfl, by decide +kernel, rfl, by decide +kernel, by decide +kernel⟩
abbrev s_l_told : Stmt := topS 46
theorem sc_l_told : FnScope ["_law_room", "_law_state", "_law_places", "_law_one", "_law_due", "_law_thing_here", "_law_found"] ["_law_room", "_law_state"] (defScope s_l_told) := ⟨rfl, rfl, rfl, by decide +kernel, rfl, by decide +kernel, by decide +kernel⟩
abbrev s_l_stands : Stmt := topS 47
theorem sc_l_stands : FnScope ["_law_room", "_law_state", "_law_used", "_law_one", "_law_places", "_law_found", "_law_pair"] ["_law_room", "_law_state"] (defScope s_l_stands) := ⟨rfl, rfl, rfl, by decide +kernel, rfl, by decide +kernel, by decide +kernel⟩
abbrev s_l_begun : Stmt := topS 48
theorem sc_l_begun : FnScope ["_law_script", "_law_doors", "_law_size", "_law_fields"] ["_law_script"] (defScope s_l_begun) := ⟨rfl, rfl, rfl, by decide +kernel, rfl, by decide +kernel, by decide +kernel⟩
abbrev s_l_refused : Stmt := topS 49
theorem sc_l_refused : FnScope ["_law_room", "_law_call", "_law_place"] ["_law_room", "_law_call", "_law_place"] (defScope s_l_refused) := ⟨rfl, rfl, rfl, by decide +kernel, rfl, by decide +kernel, by decide +kernel⟩
abbrev s_l_no_boxes : Stmt := topS 50
theorem sc_l_no_boxes : FnScope ["_law_room", "_law_state", "_law_seed", "_law_before", "_law_places", "_law_every", "_law_one", "_law_asked", "_law_k"] ["_law_room", "_law_state", "_law_seed", "_law_before"] (defScope s_l_no_boxes) := ⟨rfl, rfl, rfl, by decide +kernel, rfl, by decide +kernel, by decide +kernel⟩
abbrev s_l_pushed : Stmt := topS 51
theorem sc_l_pushed : FnScope ["_law_room", "_law_state", "_law_kept", "_law_gone", "_law_one", "_law_places", "_law_before", "_law_found"] ["_law_room", "_law_state"] (defScope s_l_pushed) := ⟨rfl, rfl, rfl, by decide +kernel, rfl, by decide +kernel, by decide +kernel⟩
abbrev s_law : Stmt := topS 52
theorem sc_law : FnScope ["_law_script", "_law_begun_here", "_law_room", "_law_state", "_law_k", "_law_cell", "_law_seed"] ["_law_script"] (defScope s_law) := ⟨rfl, rfl, rfl, by decide +kernel, rfl, by decide +kernel, by decide +kernel⟩
/-- where the defs stand -/
structure Adr where
  f_number_word : Addr
  d_number_word : FuncData
  f_link_word : Addr
  d_link_word : FuncData
  f_head_word : Addr
  d_head_word : FuncData
  f_is_link : Addr
  d_is_link : FuncData
  f_told_by : Addr
  d_told_by : FuncData
  f_fields_of : Addr
  d_fields_of : FuncData
  f_is_marked : Addr
  d_is_marked : FuncData
  f_hung : Addr
  d_hung : FuncData
  f_led : Addr
  d_led : FuncData
  f_heads : Addr
  d_heads : FuncData
  f_marked : Addr
  d_marked : FuncData
  f_stays : Addr
  d_stays : FuncData
  f_hung_up : Addr
  d_hung_up : FuncData
  f_slid : Addr
  d_slid : FuncData
  f_pushed : Addr
  d_pushed : FuncData
  f_is_whole : Addr
  d_is_whole : FuncData
  f_need_thing : Addr
  d_need_thing : FuncData
  f_thing_of : Addr
  d_thing_of : FuncData
  f_Rinit : Addr
  d_Rinit : FuncData
  f_Rneed_box : Addr
  d_Rneed_box : FuncData
  f_Rword_of : Addr
  d_Rword_of : FuncData
  f_Rmade : Addr
  d_Rmade : FuncData
  f_Rput : Addr
  d_Rput : FuncData
  f_Rtold : Addr
  d_Rtold : FuncData
  f_Rplaces : Addr
  d_Rplaces : FuncData
  f_Rcome_to : Addr
  d_Rcome_to : FuncData
  f_Rpushed : Addr
  d_Rpushed : FuncData
  f_Rused : Addr
  d_Rused : FuncData
  f_Rcells : Addr
  d_Rcells : FuncData
  f_l_at : Addr
  d_l_at : FuncData
  f_l_is_int : Addr
  d_l_is_int : FuncData
  f_l_words_are : Addr
  d_l_words_are : FuncData
  f_l_number : Addr
  d_l_number : FuncData
  f_l_places_of : Addr
  d_l_places_of : FuncData
  f_l_cells_of : Addr
  d_l_cells_of : FuncData
  f_l_thing : Addr
  d_l_thing : FuncData
  f_l_handed : Addr
  d_l_handed : FuncData
  f_l_come_to : Addr
  d_l_come_to : FuncData
  f_l_many : Addr
  d_l_many : FuncData
  f_l_made : Addr
  d_l_made : FuncData
  f_l_put : Addr
  d_l_put : FuncData
  f_l_told : Addr
  d_l_told : FuncData
  f_l_stands : Addr
  d_l_stands : FuncData
  f_l_begun : Addr
  d_l_begun : FuncData
  f_l_refused : Addr
  d_l_refused : FuncData
  f_l_no_boxes : Addr
  d_l_no_boxes : FuncData
  f_l_pushed : Addr
  d_l_pushed : FuncData
  f_law : Addr
  d_law : FuncData
  c_NoBox : Addr
  c_NoRoom : Addr
  c_Room : Addr
/-- what the top has written -/
structure Txt (K : PySem.W.Frag) (mg : Str → Option Value) (A : Adr) : Prop where
  F_number_word : Fun K "number_word" "number_word" s_number_word A.f_number_word A.d_number_word
  b_number_word : Binds K A.d_number_word ["n"] []
  m_number_word : mg "number_word" = some (.ref A.f_number_word)
  F_link_word : Fun K "link_word" "link_word" s_link_word A.f_link_word A.d_link_word
  b_link_word : Binds K A.d_link_word ["place"] []
  m_link_word : mg "link_word" = some (.ref A.f_link_word)
  F_head_word : Fun K "head_word" "head_word" s_head_word A.f_head_word A.d_head_word
  b_head_word : Binds K A.d_head_word ["many", "marked"] []
  m_head_word : mg "head_word" = some (.ref A.f_head_word)
  F_is_link : Fun K "is_link" "is_link" s_is_link A.f_is_link A.d_is_link
  b_is_link : Binds K A.d_is_link ["word"] []
  m_is_link : mg "is_link" = some (.ref A.f_is_link)
  F_told_by : Fun K "told_by" "told_by" s_told_by A.f_told_by A.d_told_by
  b_told_by : Binds K A.d_told_by ["word"] []
  m_told_by : mg "told_by" = some (.ref A.f_told_by)
  F_fields_of : Fun K "fields_of" "fields_of" s_fields_of A.f_fields_of A.d_fields_of
  b_fields_of : Binds K A.d_fields_of ["head"] []
  m_fields_of : mg "fields_of" = some (.ref A.f_fields_of)
  F_is_marked : Fun K "is_marked" "is_marked" s_is_marked A.f_is_marked A.d_is_marked
  b_is_marked : Binds K A.d_is_marked ["head"] []
  m_is_marked : mg "is_marked" = some (.ref A.f_is_marked)
  F_hung : Fun K "hung" "hung" s_hung A.f_hung A.d_hung
  b_hung : Binds K A.d_hung ["row", "at"] []
  m_hung : mg "hung" = some (.ref A.f_hung)
  F_led : Fun K "led" "led" s_led A.f_led A.d_led
  b_led : Binds K A.d_led ["row", "head", "place"] []
  m_led : mg "led" = some (.ref A.f_led)
  F_heads : Fun K "heads" "heads" s_heads A.f_heads A.d_heads
  b_heads : Binds K A.d_heads ["row", "used"] []
  m_heads : mg "heads" = some (.ref A.f_heads)
  F_marked : Fun K "marked" "marked" s_marked A.f_marked A.d_marked
  b_marked : Binds K A.d_marked ["row", "used"] []
  m_marked : mg "marked" = some (.ref A.f_marked)
  F_stays : Fun K "stays" "stays" s_stays A.f_stays A.d_stays
  b_stays : Binds K A.d_stays ["word"] []
  m_stays : mg "stays" = some (.ref A.f_stays)
  F_hung_up : Fun K "hung_up" "hung_up" s_hung_up A.f_hung_up A.d_hung_up
  b_hung_up : Binds K A.d_hung_up ["row", "used"] []
  m_hung_up : mg "hung_up" = some (.ref A.f_hung_up)
  F_slid : Fun K "slid" "slid" s_slid A.f_slid A.d_slid
  b_slid : Binds K A.d_slid ["row", "used"] []
  m_slid : mg "slid" = some (.ref A.f_slid)
  F_pushed : Fun K "pushed" "pushed" s_pushed A.f_pushed A.d_pushed
  b_pushed : Binds K A.d_pushed ["row", "used"] []
  m_pushed : mg "pushed" = some (.ref A.f_pushed)
  F_is_whole : Fun K "is_whole" "is_whole" s_is_whole A.f_is_whole A.d_is_whole
  b_is_whole : Binds K A.d_is_whole ["value"] []
  m_is_whole : mg "is_whole" = some (.ref A.f_is_whole)
  F_need_thing : Fun K "need_thing" "need_thing" s_need_thing A.f_need_thing A.d_need_thing
  b_need_thing : Binds K A.d_need_thing ["thing"] []
  m_need_thing : mg "need_thing" = some (.ref A.f_need_thing)
  F_thing_of : Fun K "thing_of" "thing_of" s_thing_of A.f_thing_of A.d_thing_of
  b_thing_of : Binds K A.d_thing_of ["word"] []
  m_thing_of : mg "thing_of" = some (.ref A.f_thing_of)
  F_Rinit : Fun K "__init__" "Room.__init__" s_Rinit A.f_Rinit A.d_Rinit
  b_Rinit : Binds K A.d_Rinit ["self", "size", "doors"] []
  F_Rneed_box : Fun K "need_box" "Room.need_box" s_Rneed_box A.f_Rneed_box A.d_Rneed_box
  b_Rneed_box : Binds K A.d_Rneed_box ["self", "place"] []
  me_Rneed_box : Meth K A.c_Room "need_box" A.f_Rneed_box
  F_Rword_of : Fun K "word_of" "Room.word_of" s_Rword_of A.f_Rword_of A.d_Rword_of
  b_Rword_of : Binds K A.d_Rword_of ["self", "thing"] []
  me_Rword_of : Meth K A.c_Room "word_of" A.f_Rword_of
  F_Rmade : Fun K "made" "Room.made" s_Rmade A.f_Rmade A.d_Rmade
  b_Rmade : Binds K A.d_Rmade ["self", "things"] []
  me_Rmade : Meth K A.c_Room "made" A.f_Rmade
  F_Rput : Fun K "put" "Room.put" s_Rput A.f_Rput A.d_Rput
  b_Rput : Binds K A.d_Rput ["self", "place", "field", "thing"] []
  me_Rput : Meth K A.c_Room "put" A.f_Rput
  F_Rtold : Fun K "told" "Room.told" s_Rtold A.f_Rtold A.d_Rtold
  b_Rtold : Binds K A.d_Rtold ["self", "place"] []
  me_Rtold : Meth K A.c_Room "told" A.f_Rtold
  F_Rplaces : Fun K "places" "Room.places" s_Rplaces A.f_Rplaces A.d_Rplaces
  b_Rplaces : Binds K A.d_Rplaces ["self"] []
  me_Rplaces : Meth K A.c_Room "places" A.f_Rplaces
  F_Rcome_to : Fun K "come_to" "Room.come_to" s_Rcome_to A.f_Rcome_to A.d_Rcome_to
  b_Rcome_to : Binds K A.d_Rcome_to ["self"] []
  me_Rcome_to : Meth K A.c_Room "come_to" A.f_Rcome_to
  F_Rpushed : Fun K "pushed" "Room.pushed" s_Rpushed A.f_Rpushed A.d_Rpushed
  b_Rpushed : Binds K A.d_Rpushed ["self"] []
  me_Rpushed : Meth K A.c_Room "pushed" A.f_Rpushed
  F_Rused : Fun K "used" "Room.used" s_Rused A.f_Rused A.d_Rused
  b_Rused : Binds K A.d_Rused ["self"] []
  me_Rused : Meth K A.c_Room "used" A.f_Rused
  F_Rcells : Fun K "cells" "Room.cells" s_Rcells A.f_Rcells A.d_Rcells
  b_Rcells : Binds K A.d_Rcells ["self"] []
  me_Rcells : Meth K A.c_Room "cells" A.f_Rcells
  F_l_at : Fun K "_law_at" "_law_at" s_l_at A.f_l_at A.d_l_at
  b_l_at : Binds K A.d_l_at ["_law_script", "_law_place"] []
  m__law_at : mg "_law_at" = some (.ref A.f_l_at)
  F_l_is_int : Fun K "_law_is_int" "_law_is_int" s_l_is_int A.f_l_is_int A.d_l_is_int
  b_l_is_int : Binds K A.d_l_is_int ["_law_value"] []
  m__law_is_int : mg "_law_is_int" = some (.ref A.f_l_is_int)
  F_l_words_are : Fun K "_law_words_are" "_law_words_are" s_l_words_are A.f_l_words_are A.d_l_words_are
  b_l_words_are : Binds K A.d_l_words_are ["_law_found", "_law_due"] []
  m__law_words_are : mg "_law_words_are" = some (.ref A.f_l_words_are)
  F_l_number : Fun K "_law_number" "_law_number" s_l_number A.f_l_number A.d_l_number
  b_l_number : Binds K A.d_l_number ["_law_seed"] []
  m__law_number : mg "_law_number" = some (.ref A.f_l_number)
  F_l_places_of : Fun K "_law_places_of" "_law_places_of" s_l_places_of A.f_l_places_of A.d_l_places_of
  b_l_places_of : Binds K A.d_l_places_of ["_law_order", "_law_fields"] []
  m__law_places_of : mg "_law_places_of" = some (.ref A.f_l_places_of)
  F_l_cells_of : Fun K "_law_cells_of" "_law_cells_of" s_l_cells_of A.f_l_cells_of A.d_l_cells_of
  b_l_cells_of : Binds K A.d_l_cells_of ["_law_order", "_law_fields", "_law_size"] []
  m__law_cells_of : mg "_law_cells_of" = some (.ref A.f_l_cells_of)
  F_l_thing : Fun K "_law_thing" "_law_thing" s_l_thing A.f_l_thing A.d_l_thing
  b_l_thing : Binds K A.d_l_thing ["_law_seed", "_law_order"] []
  m__law_thing : mg "_law_thing" = some (.ref A.f_l_thing)
  F_l_handed : Fun K "_law_handed" "_law_handed" s_l_handed A.f_l_handed A.d_l_handed
  b_l_handed : Binds K A.d_l_handed ["_law_thing_here", "_law_places"] []
  m__law_handed : mg "_law_handed" = some (.ref A.f_l_handed)
  F_l_come_to : Fun K "_law_come_to" "_law_come_to" s_l_come_to A.f_l_come_to A.d_l_come_to
  b_l_come_to : Binds K A.d_l_come_to ["_law_order", "_law_fields"] []
  m__law_come_to : mg "_law_come_to" = some (.ref A.f_l_come_to)
  F_l_many : Fun K "_law_many" "_law_many" s_l_many A.f_l_many A.d_l_many
  b_l_many : Binds K A.d_l_many ["_law_cell", "_law_seed"] []
  m__law_many : mg "_law_many" = some (.ref A.f_l_many)
  F_l_made : Fun K "_law_made" "_law_made" s_l_made A.f_l_made A.d_l_made
  b_l_made : Binds K A.d_l_made ["_law_room", "_law_state", "_law_cell", "_law_seed"] []
  m__law_made : mg "_law_made" = some (.ref A.f_l_made)
  F_l_put : Fun K "_law_put" "_law_put" s_l_put A.f_l_put A.d_l_put
  b_l_put : Binds K A.d_l_put ["_law_room", "_law_state", "_law_seed"] []
  m__law_put : mg "_law_put" = some (.ref A.f_l_put)
  F_l_told : Fun K "_law_told" "_law_told" s_l_told A.f_l_told A.d_l_told
  b_l_told : Binds K A.d_l_told ["_law_room", "_law_state"] []
  m__law_told : mg "_law_told" = some (.ref A.f_l_told)
  F_l_stands : Fun K "_law_stands" "_law_stands" s_l_stands A.f_l_stands A.d_l_stands
  b_l_stands : Binds K A.d_l_stands ["_law_room", "_law_state"] []
  m__law_stands : mg "_law_stands" = some (.ref A.f_l_stands)
  F_l_begun : Fun K "_law_begun" "_law_begun" s_l_begun A.f_l_begun A.d_l_begun
  b_l_begun : Binds K A.d_l_begun ["_law_script"] []
  m__law_begun : mg "_law_begun" = some (.ref A.f_l_begun)
  F_l_refused : Fun K "_law_refused" "_law_refused" s_l_refused A.f_l_refused A.d_l_refused
  b_l_refused : Binds K A.d_l_refused ["_law_room", "_law_call", "_law_place"] []
  m__law_refused : mg "_law_refused" = some (.ref A.f_l_refused)
  F_l_no_boxes : Fun K "_law_no_boxes" "_law_no_boxes" s_l_no_boxes A.f_l_no_boxes A.d_l_no_boxes
  b_l_no_boxes : Binds K A.d_l_no_boxes ["_law_room", "_law_state", "_law_seed", "_law_before"] []
  m__law_no_boxes : mg "_law_no_boxes" = some (.ref A.f_l_no_boxes)
  F_l_pushed : Fun K "_law_pushed" "_law_pushed" s_l_pushed A.f_l_pushed A.d_l_pushed
  b_l_pushed : Binds K A.d_l_pushed ["_law_room", "_law_state"] []
  m__law_pushed : mg "_law_pushed" = some (.ref A.f_l_pushed)
  F_law : Fun K "law" "law" s_law A.f_law A.d_law
  b_law : Binds K A.d_law ["_law_script"] []
  m_law : mg "law" = some (.ref A.f_law)
  z_abs : mg "abs" = none
  z_bool : mg "bool" = none
  z_int : mg "int" = none
  z_isinstance : mg "isinstance" = none
  z_len : mg "len" = none
  z_list : mg "list" = none
  z_min : mg "min" = none
  z_range : mg "range" = none
  z_str : mg "str" = none
  z_sum : mg "sum" = none
  z_tuple : mg "tuple" = none
  m_pushed_sliding : mg "pushed_sliding" = some (.ref A.f_pushed)
  m_MOST_CELLS : ∃ t, mg "MOST_CELLS" = some (.int 400 t)
  m_MOST_DOORS : ∃ t, mg "MOST_DOORS" = some (.int 20 t)
  m_Room : mg "Room" = some (.ref A.c_Room)
  clR : Cls K A.c_Room
  na_row : NoAttr K A.c_Room "row"
  na_filled : NoAttr K A.c_Room "filled"
  mkR : L2.Mk K A.c_Room A.f_Rinit
  m_NoBox : mg "NoBox" = some (.ref A.c_NoBox)
  x_NoBox : PySem.W.excIn K A.c_NoBox [.type "ValueError", .type "Exception", .type "BaseException", .type "object"] "ValueError.__new__" = true
  k_NoBox : PySem.W.keepIn K (.ref A.c_NoBox) = true
  sb_NoBox : PySem.W.subIn K (.ref A.c_NoBox) (.type "BaseException") = some true
  ty_NoBox : PySem.W.typeIn K (.ref A.c_NoBox) = some (.type "type")
  ex_NoBox : PySem.W.exmOne K (.ref A.c_NoBox) (.ref A.c_NoBox) = some true
  m_NoRoom : mg "NoRoom" = some (.ref A.c_NoRoom)
  x_NoRoom : PySem.W.excIn K A.c_NoRoom [.type "ValueError", .type "Exception", .type "BaseException", .type "object"] "ValueError.__new__" = true
  k_NoRoom : PySem.W.keepIn K (.ref A.c_NoRoom) = true
  sb_NoRoom : PySem.W.subIn K (.ref A.c_NoRoom) (.type "BaseException") = some true
  ty_NoRoom : PySem.W.typeIn K (.ref A.c_NoRoom) = some (.type "type")
  ex_NoRoom : PySem.W.exmOne K (.ref A.c_NoRoom) (.ref A.c_NoRoom) = some true
local macro_rules | `(tactic| walk_at "rd") => `(tactic| repeat (first | refine ⟨rfl, ?_⟩ | refine ⟨_, rfl, ?_⟩ | refine ⟨IntMulOk.of_left (by decide), ?_⟩ | refine ⟨IntMulOk.of_right (by decide), ?_⟩ | refine ⟨⟨by decide, by decide⟩, ?_⟩ | refine ⟨(by show (0 : Int) < _; decide), ?_⟩ | refine ⟨_, _, rfl, rfl, ?_⟩ | refine ⟨_, _, rfl, ?_⟩))
section
variable {P : Program} {w : World} {K : PySem.W.Frag} {mg : Str → Option Value} {base : Heap} {A : Adr}
theorem same_upd {H : Hp} {p : Addr} {o : HO} (h : H p = none) : Same H (upd H p o) := fun b x e => by
  rw [upd_ne (ne_of_none e h)]
  exact e
/-- a new object may change -/
theorem same_mut {H H' : Hp} {p : Addr} {o : HO} (h : H p = none) (e : Same H H') : Same H (upd H' p o) := fun b x q => by
  rw [upd_ne (ne_of_none q h)]
  exact e b x q
theorem op_mulB {X : Cx} : OpR X (binaryOp .Mult) (rI IntMulOk fun i j => .int (i * j)) := opI fun _ _ _ _ _ _ _ hc q => mul_int q hc
section
variable {X : Cx}
def rAddI : R2 := fun x y H Q => ∃ i j : Int, x = .int i ∧ y = .int j ∧ Q (.int (i + j)) H
def rSubI : R2 := fun x y H Q => ∃ i j : Int, x = .int i ∧ y = .int j ∧ Q (.int (i - j)) H
def rMulI : R2 := fun x y H Q => ∃ i j : Int, x = .int i ∧ y = .int j ∧ IntMulOk i j ∧ Q (.int (i * j)) H
def rDivI : R2 := fun x y H Q => ∃ i j : Int, x = .int i ∧ y = .int j ∧ CDiv i j ∧ Q (.int (i / j)) H
def rModI : R2 := fun x y H Q => ∃ i j : Int, x = .int i ∧ y = .int j ∧ 0 < j ∧ Q (.int (i % j)) H
def rPowI : R2 := fun x y H Q => ∃ i j : Int, x = .int i ∧ y = .int j ∧ CPow i j ∧ Q (.int (i ^ j.toNat)) H
def rLtI : R2 := fun x y H Q => ∃ i j : Int, x = .int i ∧ y = .int j ∧ Q (.bl (decide (i < j))) H
def rLeI : R2 := fun x y H Q => ∃ i j : Int, x = .int i ∧ y = .int j ∧ Q (.bl (decide (i ≤ j))) H
def rGtI : R2 := fun x y H Q => ∃ i j : Int, x = .int i ∧ y = .int j ∧ Q (.bl (decide (j < i))) H
def rGeI : R2 := fun x y H Q => ∃ i j : Int, x = .int i ∧ y = .int j ∧ Q (.bl (decide (j ≤ i))) H
theorem op_addI : OpR X (binaryOp .Add) rAddI := op_add
theorem op_subI : OpR X (binaryOp .Sub) rSubI := op_sub
theorem op_mulI : OpR X (binaryOp .Mult) rMulI := op_mulB
theorem op_divI : OpR X (binaryOp .FloorDiv) rDivI := op_fdiv
theorem op_modI : OpR X (binaryOp .Mod) rModI := op_mod
theorem op_powI : OpR X (binaryOp .Pow) rPowI := op_pow
theorem op_ltI : OpR X (compareOp .Lt) rLtI := op_lt
theorem op_leI : OpR X (compareOp .LtE) rLeI := op_le
theorem op_gtI : OpR X (compareOp .Gt) rGtI := op_gt
theorem op_geI : OpR X (compareOp .GtE) rGeI := op_ge
end
theorem op_isnotB {X : Cx} : OpR X (compareOp .IsNot) (fun x y H Q => ∃ b : Bool, y = .bl b ∧ (∀ a, x ≠ .ref a) ∧ Q (.bl (!decide (x = .bl b))) H) := by
  intro pins s σ H x y v u Q I rx ry h
  obtain ⟨b, rfl, nr, q⟩ := h
  cases (show u = Value.bool b from ry)
  by_cases e : x = .bl b
  · subst e
    cases (show v = Value.bool b from rx)
    exact wpAny_isNot_self rfl ⟨.bl false, H, I, rfl, by simpa using q⟩
  · have nv : v ≠ Value.bool b := fun z => e (RelV.inj rx (by rw [z]; exact rfl))
    refine wpAny_isNot_other ?_ nv ⟨.bl true, H, I, rfl, by simpa [e] using q⟩
    cases x with
    | non => cases rx; rfl
    | bl _ => cases rx; rfl
    | int _ => obtain ⟨t, rfl⟩ := rx; rfl
    | str _ => obtain ⟨t, rfl⟩ := rx; rfl
    | byt _ => obtain ⟨t, rfl⟩ := rx; rfl
    | flt _ => obtain ⟨t, rfl⟩ := rx; rfl
    | ref a => exact absurd rfl (nr a)
    | ty _ => cases rx; rfl
section
variable {X : Cx} {K : PySem.W.Frag}
theorem ix_listK (e : X.K = K) : IxR X (rIxL K) := by subst e; exact ix_list
theorem ix_tupK (e : X.K = K) : IxR X (rIxT K) := by subst e; exact ix_tup
theorem sl_listK (e : X.K = K) : SlR X (rSlL K) := by subst e; exact sl_list
def rLen (K : PySem.W.Frag) : List V → Hp → VK → Prop := fun xs H Q => ∃ p ys, xs = [.ref p] ∧ (SqL K H p ys ∨ SqT K H p ys) ∧ Q (.int ys.length) H
def rListOf (K : PySem.W.Frag) : List V → Hp → VK → Prop := fun xs H Q => ∃ p ys, xs = [.ref p] ∧ (SqL K H p ys ∨ SqT K H p ys) ∧ ∀ l, H l = none → Q (.ref l) (upd H l (.lst ys))
theorem call_lenK (e : X.K = K) : CallR X (.builtin "len") (rLen K) := by subst e; exact call_len_seq
theorem call_list_ofK (e : X.K = K) : CallR X (.type "list") (rListOf K) := by subst e; exact call_list_of
theorem call_isiK (e : X.K = K) : CallR X (.builtin "isinstance") (rIsi K) := by subst e; exact call_isi
theorem cr_sumK (e : X.K = K) (hc : X.calm = true) : CallR X (.builtin "sum") (rSum K) := by subst e; exact cr_sum hc
theorem cr_sortedK (e : X.K = K) : CallR X (.builtin "sorted") (rSortedI K) := by subst e; exact cr_sortedI
theorem op_inK (e : X.K = K) : OpR X (compareOp .In) (rIn K false) := by subst e; exact op_in_seq
theorem op_notInK (e : X.K = K) : OpR X (compareOp .NotIn) (rIn K true) := by subst e; exact op_notIn_seq
theorem op_eqDK (e : X.K = K) (hu : X.A.units + 64 < cLine) : OpR X (compareOp .Eq) (rEqD K) := by subst e; exact op_eqD hu
theorem op_neDK (e : X.K = K) (hu : X.A.units + 64 < cLine) : OpR X (compareOp .NotEq) (rNeD K) := by subst e; exact op_neD hu
theorem pi_listK {tg l : Expr} {tl : TE} (e : X.K = K) (hl : PE X l tl) : PI X tg l (iList K tl) := by subst e; exact pi_list hl
theorem pi_tupK {tg l : Expr} {tl : TE} (e : X.K = K) (hl : PE X l tl) : PI X tg l (iTup K tl) := by subst e; exact pi_tup hl
theorem pe_fldK {o : Expr} {f : Str} {pos : Pos} {ta : TE} (e : X.K = K) (he : PE X o ta) (hb : attributeBase o f X.env (eval o X.env) = eval o X.env) : PE X (.Attribute o f pos) (tFld K ta f) := by subst e; exact pe_fld he hb
end
theorem ifF {c : Bool} {A B : Prop} (hc : c = false) (h : B) : if c = true then A else B := by
  subst hc
  rw [if_neg Bool.false_ne_true]
  exact h
theorem ifT {c : Bool} {A B : Prop} (hc : c = true) (h : A) : if c = true then A else B := by
  subst hc
  rw [if_pos rfl]
  exact h
theorem tyx_list {K : PySem.W.Frag} {H : Hp} {a : Addr} {xs : List V} (h : SqL K H a xs) : TyX K H (.ref a) (.type "list") := by
  rcases h with (h | ⟨o, h⟩) | ⟨o, its, n, h, hc, _⟩
  · exact .base (.lst h)
  · exact .base (.frz h)
  · exact .kList h hc
theorem sz2000 {n : Nat} (h : n ≤ 100000) : n ≤ sizeLine := Nat.le_trans h (by decide)
theorem sz2001 {n : Nat} (h : n ≤ 100000) : n < sizeLine := Nat.lt_of_le_of_lt h (by decide)
theorem at_int {xs : List Int} {i : Nat} {x : Int} (h : xs[i]? = some x) : atI (xs.map V.int) (i : Int) = some (.int x) := atI_nat (by rw [List.getElem?_map, h]; rfl)
theorem bits_iff {x : Int} {n : Nat} : Builtin.Int.intBits x ≤ n ↔ x.natAbs < 2 ^ n := by
  unfold Builtin.Int.intBits
  by_cases h : x = 0
  · subst h
    simp [Nat.two_pow_pos]
  · have h0 : x.natAbs ≠ 0 := by omega
    rw [if_neg (by simpa using h), ← Nat.log2_lt h0]
    exact Iff.rfl
theorem bits_mul {a b : Int} {m n : Nat} (ha : Builtin.Int.intBits a ≤ m) (hb : Builtin.Int.intBits b ≤ n) : Builtin.Int.intBits (a * b) ≤ m + n := by
  rw [bits_iff] at *
  rw [Int.natAbs_mul, Nat.pow_add]
  exact Nat.mul_lt_mul'' ha hb
theorem bits_add {a b : Int} {m n : Nat} (ha : Builtin.Int.intBits a ≤ m) (hb : Builtin.Int.intBits b ≤ n) : Builtin.Int.intBits (a + b) ≤ m + n + 1 := by
  rw [bits_iff] at *
  have h1 : (2 : Nat) ^ m ≤ 2 ^ (m + n) := Nat.pow_le_pow_right (by decide) (by omega)
  have h2 : (2 : Nat) ^ n ≤ 2 ^ (m + n) := Nat.pow_le_pow_right (by decide) (by omega)
  rw [Nat.pow_succ]
  have := Int.natAbs_add_le a b
  omega
theorem bits_div {a d : Int} {m : Nat} (ha : Builtin.Int.intBits a ≤ m) : Builtin.Int.intBits (a / d) ≤ m := by
  rw [bits_iff] at *
  exact Nat.lt_of_le_of_lt (Int.natAbs_ediv_le_natAbs a d) ha
theorem bits_le {a : Int} {m n : Nat} (ha : Builtin.Int.intBits a ≤ m) (h : m ≤ n) : Builtin.Int.intBits a ≤ n := Nat.le_trans ha h
theorem mul_ok {a b : Int} (ha : Builtin.Int.intBits a ≤ 3000000) (hb : Builtin.Int.intBits b ≤ 3000000) : IntMulOk a b := by
  have e : bitsLine = 134217728 := by decide
  unfold IntMulOk
  intro z
  rw [Bool.and_eq_true] at z
  have z3 := of_decide_eq_true z.2
  rw [e] at z3
  omega
theorem mod_nat {n : Nat} (x : Int) (h : 0 < n) : ∃ c : Nat, x % (n : Int) = (c : Int) ∧ c < n := by
  have h1 := Int.emod_nonneg x (show (n : Int) ≠ 0 by omega)
  have h2 := Int.emod_lt_of_pos x (show (0 : Int) < (n : Int) by omega)
  exact ⟨(x % (n : Int)).toNat, by omega, by omega⟩
def natV (c : Nat) : V := .int (c : Int)
theorem flat_nats (cs : List Nat) : (cs.map natV).all flatV = true := by
  rw [List.all_map]
  exact List.all_eq_true.mpr fun _ _ => rfl
theorem in_nats (c : Nat) (cs : List Nat) : inV (.int (c : Int)) (cs.map natV) = decide (c ∈ cs) := by
  unfold inV
  rw [List.any_map]
  by_cases h : c ∈ cs
  · rw [decide_eq_true h]
    exact List.any_eq_true.mpr ⟨c, h, by show ((c : Int) == (c : Int)) = true; simp⟩
  · rw [decide_eq_false h]
    refine List.any_eq_false.mpr fun d hd => ?_
    show ¬ ((d : Int) == (c : Int)) = true
    intro z
    have : (d : Int) = (c : Int) := by simpa using z
    have : d = c := by omega
    exact h (this ▸ hd)
/-! #### number_word -/
def sp_number_word (K : PySem.W.Frag) : Sp := fun vs H Q _ => ∃ n : Int, vs = [.int n] ∧ Q (.int (2 * n)) H
theorem ok_number_word (T : Txt K mg A) : FnOk P w K mg base CX0 1 A.f_number_word A.d_number_word ["n"] (sp_number_word K) := by
  refine T.F_number_word.ok sc_number_word (fun vs H Q E h => by obtain ⟨n, rfl, h⟩ := h; rfl) (fun cdv A' outer s H vs Q E hr h => ⟨_, (pss_one (ps_ret (pe_op op_mulI pe_int (pv 0)))), ?_⟩)
  obtain ⟨n, rfl, h⟩ := h
  walk_at "rd"
  exact h
/-! #### link_word -/
def sp_link_word (K : PySem.W.Frag) : Sp := fun vs H Q _ => ∃ n : Int, vs = [.int n] ∧ Q (.int (2 * n + 1)) H
theorem ok_link_word (T : Txt K mg A) : FnOk P w K mg base CX0 1 A.f_link_word A.d_link_word ["place"] (sp_link_word K) := by
  refine T.F_link_word.ok sc_link_word (fun vs H Q E h => by obtain ⟨n, rfl, h⟩ := h; rfl) (fun cdv A' outer s H vs Q E hr h => ⟨_, (pss_one (ps_ret (pe_op op_addI (pe_op op_mulI pe_int (pv 0)) pe_int))), ?_⟩)
  obtain ⟨n, rfl, h⟩ := h
  walk_at "rd"
  exact h
/-! #### head_word -/
def sp_head_word (K : PySem.W.Frag) : Sp := fun vs H Q _ => ∃ (n : Int) (b : Bool), vs = [.int n, .bl b] ∧ Q (.int (4 * n + if b then 2 else 0)) H
theorem ok_head_word (T : Txt K mg A) : FnOk P w K mg base CX0 1 A.f_head_word A.d_head_word ["many", "marked"] (sp_head_word K) := by
  refine T.F_head_word.ok sc_head_word (fun vs H Q E h => by obtain ⟨n, b, rfl, h⟩ := h; rfl) (fun cdv A' outer s H vs Q E hr h => ⟨_, (pss_cons (ps_if (pt_val (pv 1))
  (pss_one (ps_ret (pe_op op_addI (pe_op op_mulI pe_int (pv 0)) pe_int)))
  pss_nil)
  (pss_one (ps_ret (pe_op op_mulI pe_int (pv 0))))), ?_⟩)
  obtain ⟨n, b, rfl, h⟩ := h
  refine ⟨_, rfl, _, rfl, ?_⟩
  cases b with
  | true =>
    refine iteT ?_
    walk_at "rd"
    exact h
  | false =>
    refine iteF ?_
    rw [if_neg Bool.false_ne_true, Int.add_zero] at h
    walk_at "rd"
    exact h
/-! #### is_link -/
def sp_is_link (K : PySem.W.Frag) : Sp := fun vs H Q _ => ∃ n : Int, vs = [.int n] ∧ Q (.bl (decide (n % 2 = 1))) H
theorem ok_is_link (T : Txt K mg A) : FnOk P w K mg base CX0 1 A.f_is_link A.d_is_link ["word"] (sp_is_link K) := by
  refine T.F_is_link.ok sc_is_link (fun vs H Q E h => by obtain ⟨n, rfl, h⟩ := h; rfl) (fun cdv A' outer s H vs Q E hr h => ⟨_, (pss_one (ps_ret (pe_cmpR op_eq (pe_op op_modI (pv 0) pe_int) pe_int (nomark _)))), ?_⟩)
  obtain ⟨n, rfl, h⟩ := h
  walk_at "rd"
  rw [dec_int, Bool.beq_eq_decide_eq]
  exact h
/-! #### told_by -/
def sp_told_by (K : PySem.W.Frag) : Sp := fun vs H Q _ => ∃ n : Int, vs = [.int n] ∧ Q (.int (n / 2)) H
theorem ok_told_by (T : Txt K mg A) : FnOk P w K mg base CX0 1 A.f_told_by A.d_told_by ["word"] (sp_told_by K) := by
  refine T.F_told_by.ok sc_told_by (fun vs H Q E h => by obtain ⟨n, rfl, h⟩ := h; rfl) (fun cdv A' outer s H vs Q E hr h => ⟨_, (pss_one (ps_ret (pe_op op_divI (pv 0) pe_int))), ?_⟩)
  obtain ⟨n, rfl, h⟩ := h
  walk_at "rd"
  exact h
/-! #### fields_of -/
def sp_fields_of (K : PySem.W.Frag) : Sp := fun vs H Q _ => ∃ n : Int, vs = [.int n] ∧ Q (.int (n / 4)) H
theorem ok_fields_of (T : Txt K mg A) : FnOk P w K mg base CX0 1 A.f_fields_of A.d_fields_of ["head"] (sp_fields_of K) := by
  refine T.F_fields_of.ok sc_fields_of (fun vs H Q E h => by obtain ⟨n, rfl, h⟩ := h; rfl) (fun cdv A' outer s H vs Q E hr h => ⟨_, (pss_one (ps_ret (pe_op op_divI (pv 0) pe_int))), ?_⟩)
  obtain ⟨n, rfl, h⟩ := h
  walk_at "rd"
  exact h
/-! #### is_marked -/
def sp_is_marked (K : PySem.W.Frag) : Sp := fun vs H Q _ => ∃ n : Int, vs = [.int n] ∧ Q (.bl (decide (n % 4 = 2))) H
theorem ok_is_marked (T : Txt K mg A) : FnOk P w K mg base CX0 1 A.f_is_marked A.d_is_marked ["head"] (sp_is_marked K) := by
  refine T.F_is_marked.ok sc_is_marked (fun vs H Q E h => by obtain ⟨n, rfl, h⟩ := h; rfl) (fun cdv A' outer s H vs Q E hr h => ⟨_, (pss_one (ps_ret (pe_cmpR op_eq (pe_op op_modI (pv 0) pe_int) pe_int (nomark _)))), ?_⟩)
  obtain ⟨n, rfl, h⟩ := h
  walk_at "rd"
  rw [dec_int, Bool.beq_eq_decide_eq]
  exact h
theorem cut_nat (xs : List V) (i k : Nat) : cutV xs (some (i : Int)) (some (k : Int)) = (xs.drop i).take (k - i) := by
  unfold cutV
  rw [HT.sIx_nat, HT.sIx_nat]
  by_cases h : i ≤ xs.length
  · rw [Nat.min_eq_left h]
    by_cases h2 : k ≤ xs.length
    · rw [Nat.min_eq_left h2]
    · rw [Nat.min_eq_right (by omega)]
      rw [List.take_of_length_le (by rw [List.length_drop]; exact Nat.le_refl _), List.take_of_length_le (by rw [List.length_drop]; omega)]
  · rw [Nat.min_eq_right (show xs.length ≤ i by omega), List.drop_of_length_le (Nat.le_refl _), List.drop_of_length_le (show xs.length ≤ i by omega)]
    simp
/-- the script's item at a place, 0 beyond -/
def cell (ns : List Int) (i : Nat) : Int := ns.getD i 0
theorem cell_bits {ns : List Int} (h : ∀ z ∈ ns, Builtin.Int.intBits z ≤ 1048576) (i : Nat) : Builtin.Int.intBits (cell ns i) ≤ 1048576 := by
  unfold cell
  rw [List.getD_eq_getElem?_getD]
  cases e : ns[i]? with
  | none => decide
  | some x => exact h x (List.mem_of_getElem? e)
/-! #### _law_at -/
def sp_l_at (K : PySem.W.Frag) : Sp := fun vs H Q _ => ∃ (a : Addr) (ns : List Int) (i : Nat), vs = [.ref a, .int i] ∧ SqL K H a (ns.map V.int) ∧ ns.length ≤ 1000 ∧ ∀ H', Same H H' → Q (.int (cell ns i)) H'
theorem ok_l_at (T : Txt K mg A) : FnOk P w K mg base CX0 1 A.f_l_at A.d_l_at ["_law_script", "_law_place"] (sp_l_at K) := by
  refine T.F_l_at.ok sc_l_at (fun vs H Q E h => by obtain ⟨a, ns, i, rfl, hS, hl, h⟩ := h; rfl) (fun cdv A' outer s H vs Q E hr h => ⟨_, (pss_one (ps_ret (pe_ix (ix_listK (K := K) rfl) (pe_op op_cat (pe_slice (sl_listK (K := K) rfl) (pv 0) (po_some (pv 1)) (po_some (pe_op op_addI (pv 1) pe_int))) (pe_lst (pa_cons pe_int pa_nil))) pe_int (fun _ _ => rfl)))), ?_⟩)
  obtain ⟨a, ns, i, rfl, hS, hl, h⟩ := h
  refine ⟨_, rfl, _, rfl, _, rfl, _, rfl, _, _, rfl, rfl, _, rfl, a, _, rfl, hS, fun p hp => ?_⟩
  refine ⟨sz2000 (by show 1 ≤ 100000; decide), fun l hl2 => ?_⟩
  have hpl : p ≠ l := fun e => by rw [← e, upd_same] at hl2; cases hl2
  refine ⟨p, l, _, _, rfl, rfl, by rw [upd_ne hpl, upd_same], upd_same, ?_, fun q hq => ?_⟩
  · refine sz2000 ?_
    show (cutV (ns.map V.int) _ _).length + 1 ≤ _
    rw [show ((i : Int) + 1) = ((i + 1 : Nat) : Int) by omega, cut_nat, List.length_take]
    omega
  · refine ⟨q, _, 0, .int (cell ns i), rfl, rfl, .of upd_same, ?_, ?_⟩
    · refine atI_nat (j := 0) ?_
      rw [show ((i : Int) + 1) = ((i + 1 : Nat) : Int) by omega, cut_nat, show i + 1 - i = 1 by omega]
      unfold cell
      rw [List.getD_eq_getElem?_getD]
      by_cases hi : i < ns.length
      · rw [List.getElem?_append_left (by rw [List.length_take, List.length_drop, List.length_map]; omega), List.getElem?_take_of_lt (by decide), List.getElem?_drop, Nat.add_zero, List.getElem?_map, List.getElem?_eq_getElem hi]
        rfl
      · have e : ns[i]? = none := List.getElem?_eq_none (by omega)
        rw [List.drop_of_length_le (by rw [List.length_map]; omega), e]
        rfl
    · exact h _ (((same_upd hp).trans (same_upd hl2)).trans (same_upd hq))
/-! #### _law_is_int -/
def sp_l_is_int (K : PySem.W.Frag) : Sp := fun vs H Q _ => ∃ n : Int, vs = [.int n] ∧ Q (.bl true) H
theorem ok_l_is_int (T : Txt K mg A) : FnOk P w K mg base CX0 1 A.f_l_is_int A.d_l_is_int ["_law_value"] (sp_l_is_int K) := by
  refine T.F_l_is_int.ok sc_l_is_int (fun vs H Q E h => by obtain ⟨n, rfl, h⟩ := h; rfl) (fun cdv A' outer s H vs Q E hr h => ⟨_, (pss_one (ps_ret (pe_and (pe_callB (call_isiK (K := K) rfl) (by rfl) T.z_isinstance (by decide +kernel) (pa_cons (pv 0) (pa_cons (pe_bltn (v := .ty "int") (by rfl) T.z_int (by decide +kernel) rfl) pa_nil))) (pe_and (pe_cmpR op_isnotB (pv 0) pe_bl (nomark _)) (pe_one (pe_cmpR op_isnotB (pv 0) pe_bl (nomark _))))))), ?_⟩)
  obtain ⟨n, rfl, h⟩ := h
  refine ⟨_, rfl, .int n, _, _, _, true, rfl, .ty "int", .base (.int n), kit_ty (by decide +kernel), true, rfl, iteT ?_⟩
  refine ⟨_, rfl, true, rfl, (fun a z => nomatch z), _, rfl, iteT ?_⟩
  exact ⟨_, rfl, false, rfl, (fun a z => nomatch z), h⟩
/-! #### _law_words_are -/
def sp_l_words_are (K : PySem.W.Frag) : Sp := fun vs H Q _ => ∃ (a b : Addr) (xs : List Int), vs = [.ref a, .ref b] ∧ SqL K H a (xs.map V.int) ∧ SqL K H b (xs.map V.int) ∧ xs.length ≤ 2000 ∧ ∀ H', Same H H' → Q (.bl true) H'
theorem ok_l_words_are (T : Txt K mg A) : FnOk P w K mg base CX0 2 A.f_l_words_are A.d_l_words_are ["_law_found", "_law_due"] (sp_l_words_are K) := by
  refine T.F_l_words_are.ok sc_l_words_are (fun vs H Q E h => by obtain ⟨a, b, xs, rfl, ha, hb, hl, h⟩ := h; rfl) (fun cdv A' outer s H vs Q E hr h => ⟨_, (pss_cons (ps_if (PW.pt (pw_or (pt_not (pt_val (pe_callB (call_isiK (K := K) rfl) (by rfl) T.z_isinstance (by decide +kernel) (pa_cons (pv 0) (pa_cons (pe_bltn (v := .ty "list") (by rfl) T.z_list (by decide +kernel) rfl) pa_nil))))) (pw_or1 (pt_cmpR op_ne (pe_callB (call_lenK (K := K) rfl) (by rfl) T.z_len (by decide +kernel) (pa_cons (pv 0) pa_nil)) (pe_callB (call_lenK (K := K) rfl) (by rfl) T.z_len (by decide +kernel) (pa_cons (pv 1) pa_nil)) (nomark _)))))
  (pss_one (ps_ret pe_bl))
  pss_nil)
  (pss_one (ps_ret (pe_cmpR op_eq (pe_callB (call_lenK (K := K) rfl) (by rfl) T.z_len (by decide +kernel) (pa_cons (pe_lc (own := [("_law_k", 2)]) (g := gName 2) rfl sc_l_words_are.nd (pi_range1 rfl T.z_range (pa_cons (pe_callB (call_lenK (K := K) rfl) (by rfl) T.z_len (by decide +kernel) (pa_cons (pv 1) pa_nil)) pa_nil)) (blkOk_by (own := [("_law_k", 2)]) (N := ["_law_found", "_law_due", "_law_k"]) (sc := defScope s_l_words_are) (by decide +kernel)) (fun _ _ _ _ _ => pg_name (i := 2) sc_l_words_are.nd rfl (.inl rfl)) (fun _ _ _ _ _ => (pts_one (PW.pt (pw_or (pt_not (pt_val (pe_call (ok_l_is_int T) (hr.mono (by decide)) (by rfl) T.m__law_is_int T.F_l_is_int.kp T.b_l_is_int .nil pass0 (pa_cons (pe_ix (ix_listK (K := K) rfl) (pv 0) (pv 2) (fun _ _ => rfl)) pa_nil)))) (pw_or1 (pt_cmpR op_ne (pe_ix (ix_listK (K := K) rfl) (pv 0) (pv 2) (fun _ _ => rfl)) (pe_ix (ix_listK (K := K) rfl) (pv 1) (pv 2) (fun _ _ => rfl)) (nomark _))))))) (fun _ _ _ _ _ => (pv 2))) pa_nil)) pe_int (nomark _))))), ?_⟩)
  obtain ⟨a, b, xs, rfl, ha, hb, hl, h⟩ := h
  refine ⟨_, rfl, .ref a, _, _, _, true, rfl, .ty "list", tyx_list ha, kit_ty (by decide +kernel), true, rfl, ?_⟩
  refine iteF ⟨_, rfl, a, _, rfl, .inl ha, _, rfl, b, _, rfl, .inl hb, rfl, false, ?_, iteF ?_⟩
  · rw [decide_eq_true rfl]
    rfl
  refine ⟨_, rfl, b, _, rfl, .inl hb, _, rfl, by omega, by rw [List.length_map]; omega, fun D hD => lc_range (lo := 0) (n := _) (fun i H' => Same H H' ∧ H' D = some (.lst [])) ⟨same_upd hD, upd_same⟩ (fun i H' hi p => ?_) (fun H' p => ?_)⟩
  · have hi' : i < xs.length := by
      rw [List.length_map] at hi
      omega
    have g : xs[i]? = some xs[i] := List.getElem?_eq_getElem hi'
    have e0 : (0 : Int) + (i : Int) = (i : Int) := Int.zero_add _
    rw [e0]
    refine ⟨rfl, ?_⟩
    refine ⟨_, rfl, _, rfl, a, _, _, _, rfl, rfl, p.1.seq ha, at_int g, _, rfl, true, rfl, iteF ?_⟩
    refine ⟨_, rfl, _, rfl, a, _, _, _, rfl, rfl, p.1.seq ha, at_int g, _, rfl, _, rfl, b, _, _, _, rfl, rfl, p.1.seq hb, at_int g, rfl, false, ?_, iteF p⟩
    rw [decide_eq_true rfl]
    rfl
  · refine ⟨D, _, rfl, .inl (.of p.2), rfl, ?_⟩
    exact h _ p.1
/-- the law's own numbers -/
def num (s : Int) : Int :=
  if s % 5 < 3 then s / 5 % 41 - 20
  else if s % 5 = 3 then ([10 ^ 60 - 1, 1 - 10 ^ 60, 10 ^ 30, 0] : List Int).getD (s / 5 % 4).toNat 0
  else s / 5 * 48271 ^ 12 % (2 * 10 ^ 60 - 1) - (10 ^ 60 - 1)
/-! #### _law_number -/
def sp_l_number (K : PySem.W.Frag) : Sp := fun vs H Q _ => ∃ s : Int, vs = [.int s] ∧ Builtin.Int.intBits s ≤ 2000000 ∧ ∀ H', Same H H' → Q (.int (num s)) H'
theorem ok_l_number (T : Txt K mg A) : FnOk P w K mg base CX0 1 A.f_l_number A.d_l_number ["_law_seed"] (sp_l_number K) := by
  refine T.F_l_number.ok sc_l_number (fun vs H Q E h => by obtain ⟨s, rfl, hb, h⟩ := h; rfl) (fun cdv A' outer s H vs Q E hr h => ⟨_, (pss_cons (ps_if (pt_cmpR op_ltI (pe_op op_modI (pv 0) pe_int) pe_int (nomark _))
  (pss_one (ps_ret (pe_op op_subI (pe_op op_modI (pe_op op_divI (pv 0) pe_int) pe_int) pe_int)))
  pss_nil)
  (pss_cons (ps_if (pt_cmpR op_eq (pe_op op_modI (pv 0) pe_int) pe_int (nomark _))
  (pss_one (ps_ret (pe_ix (ix_listK (K := K) rfl) (pe_lst (pa_cons (pe_op op_subI (pe_op op_powI pe_int pe_int) pe_int) (pa_cons (pe_op op_subI pe_int (pe_op op_powI pe_int pe_int)) (pa_cons (pe_op op_powI pe_int pe_int) (pa_cons pe_int pa_nil))))) (pe_op op_modI (pe_op op_divI (pv 0) pe_int) pe_int) (fun _ _ => rfl))))
  pss_nil)
  (pss_one (ps_ret (pe_op op_subI (pe_op op_modI (pe_op op_mulI (pe_op op_divI (pv 0) pe_int) (pe_op op_powI pe_int pe_int)) (pe_op op_subI (pe_op op_mulI pe_int (pe_op op_powI pe_int pe_int)) pe_int)) (pe_op op_subI (pe_op op_powI pe_int pe_int) pe_int)))))), ?_⟩)
  obtain ⟨s, rfl, hb, h⟩ := h
  walk_at "rd"
  refine ite2 (fun e => ?_) (fun e => ?_)
  · have e := of_decide_eq_true e
    walk_at "rd"
    have q := h _ (Same.refl _)
    unfold num at q
    rw [if_pos e] at q
    exact q
  · have e : ¬ s % 5 < 3 := fun z => e (decide_eq_true z)
    walk_at "rd"
    refine ite2 (fun e2 => ?_) (fun e2 => ?_)
    · have e2 : s % 5 = 3 := V.int.inj (of_decide_eq_true e2)
      walk_at "rd"
      refine ⟨by show 4 ≤ sizeLine; decide, fun p hp => ?_⟩
      walk_at "rd"
      have q := h _ (same_upd (o := .lst (([10 ^ 60 - 1, 1 - 10 ^ 60, 10 ^ 30, 0] : List Int).map V.int)) hp)
      unfold num at q
      rw [if_neg e, if_pos e2] at q
      refine ⟨p, _, _, _, rfl, rfl, .of upd_same, ?_, q⟩
      obtain ⟨j, ej, hj⟩ : ∃ j : Nat, s / 5 % 4 = (j : Int) ∧ j < 4 := ⟨(s / 5 % 4).toNat, by omega, by omega⟩
      show atI (([10 ^ 60 - 1, 1 - 10 ^ 60, 10 ^ 30, 0] : List Int).map V.int) (s / 5 % 4) = _
      rw [ej]
      refine at_int ?_
      rw [Int.toNat_natCast, List.getD_eq_getElem?_getD, List.getElem?_eq_getElem (by exact hj)]
      rfl
    · have e2 : ¬ s % 5 = 3 := fun z => e2 (decide_eq_true (by show V.int (s % 5) = _; rw [z]))
      walk_at "rd"
      refine ⟨mul_ok (bits_le (bits_div hb) (by decide)) (by decide), ?_⟩
      walk_at "rd"
      have q := h _ (Same.refl _)
      unfold num at q
      rw [if_neg e, if_neg e2] at q
      exact q
/-- a method's call within a try -/
def tMethT (C : Addr) (m : Str) (q : Sp) (E : L2.St → XK) (o : TE) (g : TA) : TE := fun σ H Q => o σ H fun x H1 =>
  ∃ a dx fs, x = .ref a ∧ H1 a = some (.ins C dx fs) ∧
    fs.lookup m = none ∧ g σ H1 fun vs H2 => q (x :: vs) H2 Q (E σ)
theorem pe_methT {X : Cx} {Y : CXT} {n : Nat} {f C : Addr} {d : FuncData} {ns : List Str} {q : Sp} {E : L2.St → XK} {m : Str} {p1 p2 : Pos} {e o : Expr} {es : List Expr} {u : TE} {g : TA} {pl : Sem Bool}
    (ho : PE X o u) (c : Cls X.K C) (hm : Meth X.K C m f)
    (F : FnOk X.prog X.w X.K X.mg X.base Y n f d ns q) (hr : Room n X.A)
    (hb : Binds X.K d ns []) (hx : ∀ σ, PassesAt Y X σ (E σ)) (ha : PA X (e :: es) g)
    (h1 : starEach (e :: es) X.env = (false, eval e X.env) :: starEach es X.env := by rfl)
    (h2 : (backTo p2 (starEach es X.env)).any (·.1) = false := by rfl)
    (h3 : eval (.Call (.Attribute o m p1) (e :: es) [] p2) X.env = (do
      let v ← eval o X.env
      standAt p1.atName
      let (z, y) ← holding [v] (getMethod v m pl)
      callWith p2 z y (backTo p2 (starEach (e :: es) X.env))
        (backToKw p2 (keywordEach [] X.env))) := by rfl) :
    PE X (.Call (.Attribute o m p1) (e :: es) [] p2) (tMethT C m q E u g) := by
  constructor
  intro pins s σ H Q I h
  refine PySem.W.methodCall_KW (pl := pl) (thn (ho.run pins s σ H _ I h) fun y s1 z => ?_) h3
  obtain ⟨x, H1, I1, rx, a, dx, fs, ex, ea, l, k⟩ := z
  subst ex
  have e1 : y = Value.ref a := rx
  subst e1
  refine getmeth_ok I1 ea c hm l ?_
  refine PySem.W.callWith_K (first := [.ref a]) (h₀ := X.base) I.ok.mod.kin hm.kp (thn (ha.run p2 pins s1 σ H1 _ I1 k) fun us s2 z => ?_) h1 h2
  obtain ⟨vs, H2, I2, r, k2⟩ := z
  exact ⟨I2.kIn, run_fnS (us := .ref a :: us)
    (vs := .ref a :: vs) F hr hb (hx σ) I2 (.cons rfl r) k2⟩
/-- an except clause that names the class itself -/
theorem exm_own {K : PySem.W.Frag} {S : Addr}
    (a : PySem.W.subIn K (.ref S) (.type "BaseException") = some true)
    (b : PySem.W.isClsIn K S = true)
    (c : PySem.W.typeIn K (.ref S) = some (.type "type"))
    (d : PySem.W.subIn K (.ref S) (.ref S) = some true) :
    PySem.W.exmOne K (.ref S) (.ref S) = some true := by
  have b' : (PySem.W.clsIn K S).isSome = true := b
  unfold PySem.W.exmOne
  unfold PySem.W.kitCls
  simp [a, b', c, d]

/-! a comprehension out of which an exception may go -/
section
variable {M : Model} {G : Around} {E : Value → Shared → Prop} {s : Shared} {env : Env} {outer : List Env} {B : Heap} {a L L' : Addr} {Z : Obj → Prop}
/-- an exception that another frame has noted is noted by this one -/
theorem note_held {Q : Unit → Shared → Prop} (hZ : HandSPX.Steady Z) (hfr : G.frames = some (env :: outer)) (hf : env.frame = some L) (x : HandSPX.HeldZ B (env :: outer) a Z L' s.heap)
    (hQ : ∀ h', HandSPX.HeldZ B (env :: outer) a Z L h' → s.heap.UpToSlots h' → Q () { s with heap := h' }) : wpAny M G (noteFrame (.ref a) env) Q E s := by
  by_cases q : L' = L
  · rw [q] at x
    exact HandSPX.againZ hf x.2.2.2 (hQ _ x (Heap.UpToSlots.refl _))
  · obtain ⟨kb, en, fr, oe, vs, T, oT, ts, he, hz, hd, h1, hnT, nTa, hT, hdT, h3⟩ := x
    have n3 : ¬ (rawInt L' == rawInt L) = true := fun z => q (Int.ofNat.inj (by simpa [rawInt] using z))
    have sz3 := (Array.getElem?_eq_some_iff.mp h3).1
    have oth : ∀ b, b ≠ T → (s.heap.update T (Obj.mapFields (·.setIfInBounds 3 Value.none))).get? b = s.heap.get? b := fun b hb => Heap.get?_update_other _ _ hb.symm
    have nT : ∀ b o, s.heap.get? b = some o → (∀ ws, o.data ≠ .fields ws) → b ≠ T := fun b o hb hn z => by
      rw [z, hT] at hb
      cases hb
      exact hn ts hdT
    unfold noteFrame
    simp only [hf]
    refine wpAny_bind (wpAny_field he hd h1 ?_)
    rw [if_pos (by simp)]
    refine wpAny_bind (wpAny_field hT hdT h3 ?_)
    rw [if_neg n3]
    refine wpAny_bind (wpAny_setField hT hdT sz3 ?_)
    refine HandSPX.wpAny_entryZ hZ hfr (fr.of_keeps fun b o hb hn => ⟨o, (oth b (nT b o hb hn)).trans hb, rfl⟩) hf ((oth a nTa.symm).trans he) (fun b o hb => (oth b fun z => by rw [z, hnT] at hb; cases hb).trans (kb b o hb)) en hd (Array.getElem?_eq_some_iff.mp h1).1 hz fun h' hN => ?_
    obtain ⟨x1, x2, x3, x4⟩ := hN
    exact hQ h' ⟨x1, en, x2, x3⟩ fun b o hb hn => x4 b o ((oth b (nT b o hb hn)).trans hb) hn
/-- in the air, then noted by this frame -/
theorem note_sky {Q : Unit → Shared → Prop} (hZ : HandSPX.Steady Z) (hfr : G.frames = some (env :: outer)) (hf : env.frame = some L) (x : L2.Sky B (env :: outer) a Z L' s.heap)
    (hQ : ∀ h', HandSPX.HeldZ B (env :: outer) a Z L h' → s.heap.UpToSlots h' → Q () { s with heap := h' }) : wpAny M G (noteFrame (.ref a) env) Q E s := by
  rcases x with ⟨hB, hn, hl, oe, vs, he, hz, hd, h1⟩ | fl | hh
  · exact HandSPX.look_newZ hZ hfr hl hf he hB hn hd h1 hz hQ
  · exact HandSPX.looks_onZ hZ hfr hf fl hQ
  · exact note_held hZ hfr hf hh hQ
end
section
variable {X : Cx} {pins pins' : List (Addr × Obj)} {σ : L2.St} {H : Hp} {s : Shared} {E : XK}
/-- another wish for exceptions -/
abbrev Xw (X : Cx) (xe : Value → Shared → Prop) : Cx := { X with xe := xe }
theorem ok_wish {xe : Value → Shared → Prop} (k : X.Ok) : (Xw X xe).Ok := k.toTry X.pn xe
theorem inv_wish {xe : Value → Shared → Prop} (I : Inv X pins σ H s) : Inv (Xw X xe) pins σ H s :=
  ⟨ok_wish I.ok, I.os, I.bare, I.base, I.loc, I.cell, I.free, I.freeC, I.pin, I.hok, I.len⟩
theorem inv_unwish {xe : Value → Shared → Prop} (k : X.Ok) (I : Inv (Xw X xe) pins σ H s) : Inv X pins σ H s :=
  ⟨k, I.os, I.bare, I.base, I.loc, I.cell, I.free, I.freeC, I.pin, I.hok, I.len⟩
/-- what the block lets out, the def may let out -/
theorem blk_takes {H3 : Hp} {s3 : Shared} {scope : Scope} {ce : Env} {fp : List Addr} (I3 : Inv X pins σ H3 s3) (hs : X.stack = X.env :: X.outer) (hf : X.env.frame = some X.env.locals) (hcf : ce.frame = X.env.frame) (cL : ce.locals = s3.heap.objs.size)
    (f3 : ∀ b ∈ fp, FpOk X pins H3 b) (tk : L2.Takes X (fun cls d _ H => E cls d H)) :
    L2.Takes (Xw (X.blk s3 H3 scope ce fp) (notedBy (model X.prog X.w) X.A ce (CompFails (model X.prog X.w) X.A X.xe ce))) (fun cls d _ H => E cls d H) := by
  rintro u s' ⟨a, B, sI, pins', σ', H', cls, d, rfl, J, nb, up, sky, na, os, ag, w⟩
  have hfr : X.A.frames = some (X.env :: X.outer) := by rw [I3.ok.frames, hs]
  have sky2 : L2.Sky B (X.env :: X.outer) a (L2.Zc cls d) ce.locals s'.heap := by rw [← hs]; exact sky
  show wpAny _ _ (noteFrame (.ref a) ce) _ _ _
  rw [noteFrame_env _ hcf]
  refine note_sky L2.Zc.steady hfr hf sky2 fun h1 hh1 up1 => ?_
  obtain ⟨m, hn, _⟩ := J.loc
  have hn1 : h1.Ns ce.locals m := (hn.upToSlots up).upToSlots up1
  refine ⟨m, hn1, fun h2 m2 hn2 sb2 => ?_⟩
  -- the block C is hidden
  have jC : H' ce.locals = none := J.free
  have lt3 : ∀ b o, s3.heap.get? b = some o → b ∉ [ce.locals] := fun b o e z => by
    have := Heap.lt_size e
    rw [List.mem_singleton.mp z, cL] at this
    exact Nat.lt_irrefl _ this
  have J2 : Inv X pins σ H' { sI with heap := PySem.W.hideAll sI.heap [ce.locals] } := by
    have hb := J.base
    refine I3.call' (ch := fp) J.os ⟨fun b o e n h1 h2 => PySem.W.hideAll_get _ (hb.keep b o e n h1 h2) (lt3 b o e), fun b o e n h1 h2 => ?_, fun b o e n h2 => hb.free b o e n h2, fun b o e h2 => ?_, hb.tups, hb.frzs, hb.tbls⟩ ?_ J.bare fun b hb => ?_
    · obtain ⟨sl, z⟩ := hb.slot b o e n h1 h2
      exact ⟨sl, PySem.W.hideAll_get _ z (lt3 b o e)⟩
    · obtain ⟨o', z⟩ := hb.there b o e h2
      exact ⟨o', PySem.W.hideAll_get _ z (lt3 b o e)⟩
    · refine fun b o q => (J.hok b o q).stay (fun c u hc r => PySem.W.hideAll_get _ r fun z => ?_) (fun _ r => r) fun _ _ r => r
      have zc := List.mem_singleton.mp z
      rcases hc with hc | hc
      · rw [← hc, zc, jC] at q
        cases q
      · rw [zc, jC] at hc
        cases hc
    · have f := f3 b hb
      exact ⟨f.2.2.2.1, f.2.1, f.2.2.2.2.1, f.2.2.2.2.2⟩
  obtain ⟨kb, en, fr, oe, vs, T, oT, ts, he, hz, hd, ht1, hnT, nTa, hT, hdT, ht3⟩ := hh1
  obtain ⟨oC, es, ep, eC, dC, _⟩ := id hn1
  have nC : ∀ b o ws, h1.get? b = some o → o.data = .fields ws → b ≠ ce.locals := fun b o ws e de z => by
    rw [z, eC] at e
    cases e
    rw [dC] at de
    cases de
  have un : ∀ b o, (PySem.W.hideAll B [ce.locals]).get? b = some o → b ≠ ce.locals ∧ B.get? b = some o := fun b o e => by
    refine ⟨fun z => ?_, PySem.W.of_hideAll _ e⟩
    rw [z, PySem.W.hideAll_none _ (List.mem_singleton.mpr rfl)] at e
    cases e
  have none_of : ∀ b, B.get? b = none → (PySem.W.hideAll B [ce.locals]).get? b = none := fun b e => by
    cases q : (PySem.W.hideAll B [ce.locals]).get? b with
    | none => rfl
    | some o => exact absurd (e.symm.trans (un b o q).2) (by simp)
  have he2 := (sb2.2 a (nC a oe vs he hd)).trans he
  have hT2 := (sb2.2 T (nC T oT ts hT hdT)).trans hT
  have hh2 : HandSPX.HeldZ (PySem.W.hideAll B [ce.locals]) (X.env :: X.outer) a (L2.Zc cls d) X.env.locals h2 := by
    refine ⟨fun b o e => (sb2.2 b (un b o e).1).trans (kb b o (un b o e).2), none_of a en, L2.funFrames_none (Heap.FunFrames.sameBut sb2 hn2 fr) fun b hb => none_of b (fr.mem hb).1, oe, vs, T, oT, ts, he2, hz, hd, ht1, none_of T hnT, nTa, hT2, hdT, ht3⟩
  have fin : wpAny (model X.prog X.w) X.A (setFlight (.ref a) ce.frame) (fun _ s4 => wpAny (model X.prog X.w) X.A (throw (.ref a) : Sem Value) (fun _ _ => False) X.xe s4) X.xe { s' with heap := h2 } := by
    rw [hcf, hf]
    refine HandSPX.setFlight_onZ hh2 fun h3 hh3 up3 => wpAny_throw (tk _ _ ?_)
    refine ⟨a, PySem.W.hideAll B [ce.locals], _, pins, σ, H', cls, d, rfl, J2, fun b o e hb => ?_, fun b o e hnf => ?_, .inr (.inr (by rw [hs]; exact hh3)), na, os, ag, w⟩
    · have nz : b ∉ [ce.locals] := fun z => by
        rw [PySem.W.hideAll_none _ z] at e
        cases e
      exact PySem.W.hideAll_get _ (nb b o (PySem.W.of_hideAll _ e) hb) nz
    · have nz : b ≠ ce.locals := fun z => by
        rw [z, PySem.W.hideAll_none _ (List.mem_singleton.mpr rfl)] at e
        cases e
      obtain ⟨s1, q1⟩ := up b o (PySem.W.of_hideAll _ e) hnf
      obtain ⟨s2, q2⟩ := up1 b _ q1 hnf
      obtain ⟨s5, q5⟩ := up3 b _ ((sb2.2 b nz).trans q2) hnf
      exact ⟨s5, q5⟩
  show wpAny _ _ (PySem.passOn _ _ _) _ _ _
  unfold PySem.passOn
  refine wpAny_bind (wpAny_field he2 hd ht1 ?_)
  rw [if_neg (by simp)]
  first
    | exact wpAny_bind fin
    | exact wpAny_bind (wpAny_pure (wpAny_bind fin))
end
section
variable {X : Cx} {pins : List (Addr × Obj)} {σ : L2.St} {H : Hp} {s : Shared} {E : XK} {Q : VK} {elt tg iter : Expr} {ifs : List Expr} {scope : Scope} {own : List (Str × Nat)} {pos : Pos} {wi : TI} {g : TG} {tt : TT} {te : TE}
/-- [elt for tg in iter if ..] whose element may raise -/
theorem lcx_core (hc : X.calm = true) (hN : X.N.Nodup) (hst : X.stack = X.env :: X.outer) (hf : X.env.frame = some X.env.locals) (tk : L2.Takes X (fun cls d _ H => E cls d H)) (I : Inv X pins σ H s) (hi : PI X tg iter wi) (ok : BlkOk X.N X.env.scope scope own)
    (hg : ∀ s H C cl fp, PG (X.blk s H scope (compEnvC scope cl C X.env) fp) tg g) (ht : ∀ s H C cl fp, PTs (X.blk s H scope (compEnvC scope cl C X.env) fp) ifs tt)
    (he : ∀ s H C cl fp xe, L2.Takes (Xw (X.blk s H scope (compEnvC scope cl C X.env) fp) xe) (fun cls d _ H => E cls d H) → PE (Xw (X.blk s H scope (compEnvC scope cl C X.env) fp) xe) elt te)
    (hs : ∀ x, foldedSetIterable iter X.env x = pure x) (h : tLc wi g tt te (own.map (·.2)) σ H Q) :
    wpAny (model X.prog X.w) X.A (eval (.ListComp elt [⟨tg, iter, ifs, 0⟩] scope pos) X.env) (EP X pins σ Q) X.xe s := by
  have free : ∀ y ∈ scope.names, y.2 = .free → ∃ c, X.env.cells.lookup y.1 = some c := fun y hy e => I.ok.has _ (ok.free y hy e)
  rw [eval_ListComp]
  refine comprehension_at (use := none) rfl hs (closure_ok free) ok.kind (fun y hy e => (ok.uniq y hy).trans (congrArg some e)) (thn (hi.run pins s σ H _ I h) fun xv s1 hx => thn hx fun itv s2 h2 => ?_)
  obtain ⟨it, fp, tn, J, H2, rfl, I2, T, t2, f2, q⟩ := h2
  refine wpAny_newObj_type (newEnv_comp ?_) (Nat.zero_le _)
  obtain ⟨D, hD⟩ : ∃ D, D = s2.heap.objs.size := ⟨_, rfl⟩
  obtain ⟨W, ⟨m0, w0⟩, turn⟩ := q D (I2.hok.fresh (Nat.le_of_eq hD.symm))
  -- the new list
  obtain ⟨s3, e3⟩ : ∃ s3 : Shared, s3 = { s2 with heap := s2.heap.push { cls := .type "list", data := .seq ([] : List Value).toArray } } := ⟨_, rfl⟩
  have old3 : ∀ b o, s2.heap.get? b = some o → s3.heap.get? b = some o := fun b o e => by
    rw [e3]
    exact Heap.get?_push_of_some _ e
  have I3 : Inv X pins σ (upd H2 D (.lst [])) s3 := by
    rw [e3]
    refine I2.laid (t' := s2.toks) (fun b o e => Heap.get?_push_of_some _ e) (Nat.le_of_eq hD.symm) ⟨Nat.zero_le _, [], 0, .nil, ?_⟩
    rw [hD]
    exact Heap.get?_push_size _ rfl
  have lt2 : ∀ b ∈ fp, b < s2.heap.objs.size := fun b hb => Heap.lt_size (T.obj _ _ t2 b hb).choose_spec.1
  have f3 : ∀ b ∈ fp, FpOk X pins (upd H2 D (.lst [])) b ∧ b < s3.heap.objs.size := fun b hb => by
    have l := lt2 b hb
    refine ⟨⟨?_, (f2 b hb).2⟩, ?_⟩
    · rw [upd_ne (by rw [hD]; exact Nat.ne_of_lt l)]
      exact (f2 b hb).1
    · rw [e3, Heap.size_push]
      exact Nat.lt_succ_of_lt l
  have t3 : tn 0 s3.heap := T.keep _ _ _ t2 fun b _ o e => old3 b o e
  have I4 := block_start I3 ok hN f3
  have e34 : ({ s2 with heap := s2.heap.push { cls := .type "list", data := .seq ([] : List Value).toArray } } : Shared) = s3 := e3.symm
  rw [hD.symm, e34]
  obtain ⟨cl, hcl⟩ : ∃ cl, cl = cellsFrom (s3.heap.objs.size + 1) scope.names (cloFrom X.env.cells scope.names []) := ⟨_, rfl⟩
  rw [← hcl] at I4 ⊢
  obtain ⟨ce, hce⟩ : ∃ ce, ce = compEnvC scope cl s3.heap.objs.size X.env := ⟨_, rfl⟩
  show codeAny _ _ (.compStart _ 0 (.ref it) (.ref D) (compEnvC scope cl s3.heap.objs.size X.env)) (compEnds (model X.prog X.w) X.A X.xe none (EP X pins σ Q) (.ref D) (compEnvC scope cl s3.heap.objs.size X.env)) { s3 with heap := pushCells (s3.heap.push { cls := .type "dict", data := .dict #[] }) scope.names }
  have pg := hg s3 (upd H2 D (.lst [])) s3.heap.objs.size cl fp
  have pt := ht s3 (upd H2 D (.lst [])) s3.heap.objs.size cl fp
  have pe := he s3 (upd H2 D (.lst [])) s3.heap.objs.size cl fp
  rw [← hce] at I4 pg pt pe ⊢
  have cL : ce.locals = s3.heap.objs.size := by rw [hce]; rfl
  have cF : ce.frame = X.env.frame := by rw [hce]; rfl
  have hx := blk_takes (scope := scope) I3 hst hf cF cL (fun b hb => (f3 b hb).1) tk
  have pe2 := pe _ hx
  obtain ⟨H3, eH3⟩ : ∃ H3, H3 = upd H2 D (.lst []) := ⟨_, rfl⟩
  rw [← eH3] at I3 I4 pg pt pe2 w0 f3
  obtain ⟨s4, e4⟩ : ∃ s4 : Shared, s4 = { s3 with heap := pushCells (s3.heap.push { cls := .type "dict", data := .dict #[] }) scope.names } := ⟨_, rfl⟩
  have t4 : tn 0 s4.heap := T.keep _ _ _ t3 fun b _ o e => by
    rw [e4]
    exact pushCells_keeps _ _ _ _ (Heap.get?_push_of_some _ e)
  rw [← e4] at I4 ⊢
  have fpk : ∀ {σ' : L2.St} {H' : Hp} {s' : Shared}, Inv (X.blk s3 H3 scope ce fp) [] σ' H' s' → (∀ b ∈ fp, H' b = none) → ∀ b ∈ fp, FpOk (X.blk s3 H3 scope ce fp) [] H' b := fun K hn b hb =>
    ⟨hn b hb, (K.ok.exf b hb).1, K.ok.exfs b hb, .inl hb, fun x c e => (K.ok.exf b hb).2 x c e, fun p hp => (nomatch hp)⟩
  have loop : codeAny (model X.prog X.w) X.A (.compLoop (.ListComp elt [⟨tg, iter, ifs, 0⟩] scope pos) 0 (.ref it) (.ref D) ce) (compEnds (model X.prog X.w) X.A X.xe none (EP X pins σ Q) (.ref D) ce) s4 := by
    refine compLoop_any (fun n s' => ∃ i H', Inv (X.blk s3 H3 scope ce fp) [] (wipe σ (own.map (·.2))) H' s' ∧ tn i s'.heap ∧ (∀ b ∈ fp, H' b = none) ∧ W i n H') ?_ m0 ⟨0, H3, I4, t4, fun b hb => (f3 b hb).1.1, w0⟩
    rintro n s5 ⟨i, H5, I5, t5, n5, w5⟩
    rcases turn i n H5 w5 with ⟨stop, qq⟩ | ⟨go, Nx, hNx, step⟩
    · refine thnF (T.done (X.blk s3 H3 scope ce fp) rfl rfl rfl hc i [] s5 _ H5 (fun _ _ => False) I5 (fpk I5 n5) t5 stop) fun r s6 ⟨hr, I6⟩ => ?_
      subst hr
      have I7 : Inv X pins σ H5 s6 := I3.call' (ch := fp) I6.os I6.base I6.hok I6.bare fun b hb => ⟨(f3 b hb).1.2.2.2.1, (f3 b hb).1.2.1, (f3 b hb).1.2.2.2.2⟩
      obtain ⟨m, hn, _⟩ := I6.loc
      refine ⟨m, hn, fun h'' sb => ?_⟩
      have nC : H5 ce.locals = none := I6.free
      have fk : FpOk X pins H5 ce.locals := by
        rw [cL] at nC ⊢
        exact I3.fpOk (Nat.le_refl _) nC
      obtain ⟨f0, f1, _, k3, k4, k5⟩ := fk
      exact ⟨.ref D, H5, I7.turned (t' := s6.toks) (fun b o hb e => (sb.2 b hb).trans e) f0 f1 k3 k4 k5, rfl, qq⟩
    · refine thnF (T.item (X.blk s3 H3 scope ce fp) rfl rfl rfl hc i [] s5 _ H5 (fun _ _ => False) I5 (fpk I5 n5) t5 go) fun r s6 ⟨u, hr, h6⟩ => ?_
      subst hr
      refine thnF h6 fun _ s7 ⟨x, H7, I7, r7, y7, t7, n7⟩ => ?_
      refine thnF (pg.run _ s7 _ H7 x u _ (I7.pinned (fpk I7 n7) (T.obj _ _ t7)) r7 (step x H7 y7)) fun _ s8 ⟨σ8, H8, I8, hw8, q8⟩ => ?_
      refine thnF (pt.run _ s8 σ8 H8 _ I8 q8) fun b s9 ⟨H9, I9, q9⟩ => ?_
      have fin : ∀ {s' : Shared} {H' : Hp}, Inv (X.blk s3 H3 scope ce fp) ([] ++ pinsAt fp s7.heap) σ8 H' s' → Nx H' → ∃ m, m < n ∧ ∃ i H', Inv (X.blk s3 H3 scope ce fp) [] (wipe σ (own.map (·.2))) H' s' ∧ tn i s'.heap ∧ (∀ b ∈ fp, H' b = none) ∧ W i m H' := fun {s' H'} K nx => by
        obtain ⟨m', hm, w'⟩ := hNx H' nx
        have pk : ∀ b ∈ fp, ∀ o, s7.heap.get? b = some o → s'.heap.get? b = some o ∧ H' b = none := fun b hb o e => by
          have z := K.pin (b, o) (List.mem_append_right _ (List.mem_append_right _ (mem_pinsAt hb e)))
          exact ⟨z.1, z.2.1⟩
        refine ⟨m', hm, i + 1, H', (K.unpinned (pins := [])).weak (by rw [← hw8, wipe_length]) (fun j v e => ?_), T.keep _ _ _ t7 fun b hb o e => (pk b hb o e).1, fun b hb => ?_, w'⟩
        · rw [← hw8] at e
          exact (wipe_some e).1
        · obtain ⟨o, e, _⟩ := T.obj _ _ t7 b hb
          exact (pk b hb o e).2
      cases b with
      | false => exact fin I9 q9
      | true =>
        refine wpAny_mono (pe2.run _ s9 σ8 H9 _ (inv_wish I9) q9) (fun z s10 hz => ?_) fun _ _ z => z
        obtain ⟨yv, H10, I10, r10, acc, hD10, hz10, nx⟩ := hz
        exact app_ok (X := X.blk s3 H3 scope ce fp) (inv_unwish I9.ok I10) hD10 hz10 r10 fun s11 I11 => fin I11 nx
  exact codeAny_compStart_list loop (T.self X.A 0 _ _ _ t4 loop)
/-- as a value -/
theorem pe_lcX (hc : X.calm = true) (hN : X.N.Nodup) (hst : X.stack = X.env :: X.outer) (hf : X.env.frame = some X.env.locals) (tk : L2.Takes X (fun cls d _ H => E cls d H)) (hi : PI X tg iter wi) (ok : BlkOk X.N X.env.scope scope own)
    (hg : ∀ s H C cl fp, PG (X.blk s H scope (compEnvC scope cl C X.env) fp) tg g) (ht : ∀ s H C cl fp, PTs (X.blk s H scope (compEnvC scope cl C X.env) fp) ifs tt)
    (he : ∀ s H C cl fp xe, L2.Takes (Xw (X.blk s H scope (compEnvC scope cl C X.env) fp) xe) (fun cls d _ H => E cls d H) → PE (Xw (X.blk s H scope (compEnvC scope cl C X.env) fp) xe) elt te)
    (hs : ∀ x, foldedSetIterable iter X.env x = pure x := by intro _; rfl) : PE X (.ListComp elt [⟨tg, iter, ifs, 0⟩] scope pos) (tLc wi g tt te (own.map (·.2))) :=
  ⟨fun _ _ _ _ _ I h => lcx_core hc hN hst hf tk I hi ok hg ht he hs h⟩
end

theorem set_ints (xs : List Int) (j : Nat) (x : Int) : (xs.map V.int).set j (.int x) = (xs.set j x).map V.int := (List.map_set ..).symm
theorem ix_nat {xs : List Int} {c : Nat} (h : c < xs.length) : ixN (xs.map V.int).length (c : Int) = some c := by
  unfold ixN
  rw [List.length_map, if_pos (by omega), if_pos (by omega), Int.toNat_natCast]
theorem lst_set {H : Hp} {p : Addr} {xs : List Int} {j : Nat} {x : Int} : upd H p (.lst ((xs.map V.int).set j (.int x))) p = some (.lst ((xs.set j x).map V.int)) := by
  rw [upd_same, set_ints]
theorem getD_some {xs : List Int} {j : Nat} (h : j < xs.length) : xs[j]? = some (xs.getD j 0) := by
  rw [List.getD_eq_getElem?_getD, List.getElem?_eq_getElem h]
  rfl
theorem led_mem {C C' : List Int} {h : Nat} {cs ds : List Nat} {w l : Int} (k : Led C h ds w l C') (e : ∀ c, c ∈ ds ↔ c ∈ cs) : Led C h cs w l C' :=
  ⟨k.len, k.head, fun c hc => k.cell c ((e c).mpr hc), fun i h1 h2 => k.rest i h1 fun z => h2 ((e i).mp z)⟩
/-! #### hung -/
def sp_hung (K : PySem.W.Frag) : Sp := fun vs H Q _ => ∃ (a : Addr) (C : List Int) (c h : Nat), vs = [.ref a, .int c] ∧ SqL K H a (C.map V.int) ∧ C.length ≤ 2000 ∧ C[c]? = some (lk h) ∧ h < C.length ∧ ∀ p H', H p = none → Same H H' → H' p = some (.lst ((hungR C c h).map V.int)) → Q (.ref p) H'
theorem ok_hung (T : Txt K mg A) : FnOk P w K mg base CX0 2 A.f_hung A.d_hung ["row", "at"] (sp_hung K) := by
  refine T.F_hung.ok sc_hung (fun vs H Q E h => by obtain ⟨a, C, c, h, rfl, hS, hl, hc, hh, k⟩ := h; rfl) (fun cdv A' outer s H vs Q E hr h => ⟨_, (pss_cons (ps_set (i := 2) sc_hung.nd rfl (.inl rfl) (pe_callTy (call_list_ofK (K := K) rfl) (by rfl) T.z_list (by decide +kernel) (pa_cons (pv 0) pa_nil)))
  (pss_cons (ps_set (i := 3) sc_hung.nd rfl (.inl rfl) (pe_call (ok_told_by T) (hr.mono (by decide)) (by rfl) T.m_told_by T.F_told_by.kp T.b_told_by .nil pass0 (pa_cons (pe_ix (ix_listK (K := K) rfl) (pv 2) (pv 1) (fun _ _ => rfl)) pa_nil)))
  (pss_cons (ps_asg (pe_ix (ix_listK (K := K) rfl) (pv 2) (pv 3) (fun _ _ => rfl)) (pg_sub (pv 2) (pv 1) set_list))
  (pss_cons (ps_asg (pe_call (ok_link_word T) (hr.mono (by decide)) (by rfl) T.m_link_word T.F_link_word.kp T.b_link_word .nil pass0 (pa_cons (pv 1) pa_nil)) (pg_sub (pv 2) (pv 3) set_list))
  (pss_one (ps_ret (pv 2))))))), ?_⟩)
  obtain ⟨a, C, c, h, rfl, hS, hl, hc, hh, k⟩ := h
  have lc : c < C.length := (List.getElem?_eq_some_iff.mp hc).1
  walk_at "rd"
  refine ⟨a, _, rfl, .inl hS, fun p hp => ?_⟩
  walk_at "rd"
  refine ⟨p, _, _, _, rfl, rfl, .of upd_same, at_int hc, ?_⟩
  walk_at "rd"
  rw [lk_half]
  walk_at "rd"
  refine ⟨p, _, _, _, rfl, rfl, .of upd_same, at_int (getD_some hh), ?_⟩
  walk_at "rd"
  refine ⟨p, _, _, c, rfl, rfl, upd_same, ix_nat lc, ?_⟩
  walk_at "rd"
  refine ⟨p, _, _, h, rfl, rfl, lst_set, ix_nat (by rw [List.length_set]; exact hh), ?_⟩
  walk_at "rd"
  exact k p _ hp (same_mut hp (same_mut hp (same_upd hp))) lst_set
/-! #### led -/
def sp_led (K : PySem.W.Frag) : Sp := fun vs H Q _ => ∃ (a : Addr) (C : List Int) (h q : Nat) (cs : List Nat) (w : Int), vs = [.ref a, .int h, .int q] ∧ SqL K H a (C.map V.int) ∧ C.length ≤ 2000 ∧ Chain C h cs w ∧ (h :: cs).Nodup ∧ w % 2 = 0 ∧
      ∀ p H' C', H p = none → Same H H' → Led C h cs w (lk q) C' → H' p = some (.lst (C'.map V.int)) → Q (.ref p) H'
theorem ok_led (T : Txt K mg A) : FnOk P w K mg base CX0 2 A.f_led A.d_led ["row", "head", "place"] (sp_led K) := by
  refine T.F_led.ok sc_led (fun vs H Q E h => by obtain ⟨a, C, h, q, cs, w, rfl, hS, hl, hch, nd, hw, k⟩ := h; rfl) (fun cdv A' outer s H vs Q E hr h => ⟨_, (pss_cons (ps_set (i := 3) sc_led.nd rfl (.inl rfl) (pe_callTy (call_list_ofK (K := K) rfl) (by rfl) T.z_list (by decide +kernel) (pa_cons (pv 0) pa_nil)))
  (pss_cons (ps_while PassesOwn.never (pt_val (pe_call (ok_is_link T) (hr.mono (by decide)) (by rfl) T.m_is_link T.F_is_link.kp T.b_is_link .nil pass0 (pa_cons (pe_ix (ix_listK (K := K) rfl) (pv 3) (pv 1) (fun _ _ => rfl)) pa_nil)))
  (pss_cons (ps_set (i := 4) sc_led.nd rfl (.inl rfl) (pe_call (ok_told_by T) (hr.mono (by decide)) (by rfl) T.m_told_by T.F_told_by.kp T.b_told_by .nil pass0 (pa_cons (pe_ix (ix_listK (K := K) rfl) (pv 3) (pv 1) (fun _ _ => rfl)) pa_nil)))
  (pss_cons (ps_asg (pe_ix (ix_listK (K := K) rfl) (pv 3) (pv 4) (fun _ _ => rfl)) (pg_sub (pv 3) (pv 1) set_list))
  (pss_one (ps_asg (pe_call (ok_link_word T) (hr.mono (by decide)) (by rfl) T.m_link_word T.F_link_word.kp T.b_link_word .nil pass0 (pa_cons (pv 2) pa_nil)) (pg_sub (pv 3) (pv 4) set_list))))))
  (pss_one (ps_ret (pv 3))))), ?_⟩)
  obtain ⟨a, C, h, q, cs, w, rfl, hS, hl, hch, nd, hw, k⟩ := h
  have lh : h < C.length := hch.lt h (.inl rfl)
  walk_at "rd"
  refine ⟨a, _, rfl, .inl hS, fun p hp => ?_⟩
  refine ⟨fun m σ' H' => ∃ ds cs' C' y, m = cs'.length ∧ σ' = [some (.ref a), some (.int h), some (.int q), some (.ref p), y] ∧ Leds C h ds cs' w (lk q) C' ∧ (∀ c, (c ∈ ds ∨ c ∈ cs') ↔ c ∈ cs) ∧ Same H H' ∧ H' p = some (.lst (C'.map V.int)),
    ⟨_, [], cs, C, none, rfl, rfl, .start hch nd, fun c => ⟨fun z => z.elim (fun z => nomatch z) id, .inr⟩, same_upd hp, upd_same⟩, ?_⟩
  rintro m σ' H' ⟨ds, cs', C', y, rfl, rfl, L, hm, S, ep⟩
  have lh' : h < C'.length := by rw [L.len]; exact lh
  cases cs' with
  | nil =>
    walk_at "rd"
    refine ⟨p, _, _, _, rfl, rfl, .of ep, at_int L.ch, ?_⟩
    walk_at "rd"
    refine ifF (decide_eq_false (by omega)) ?_
    walk_at "rd"
    exact k p H' C' hp S (led_mem L.done fun c => (by have := hm c; simpa using this)) ep
  | cons c cs' =>
    have lc : c < C'.length := L.ch.lt c (.inr List.mem_cons_self)
    have ec := getD_some lc
    walk_at "rd"
    refine ⟨p, _, _, _, rfl, rfl, .of ep, at_int L.ch.1, ?_⟩
    walk_at "rd"
    refine ifT (decide_eq_true (lk_odd c)) ?_
    refine ⟨fun σ2 H2 => σ2 = [some (.ref a), some (.int h), some (.int q), some (.ref p), some (.int c)] ∧ Same H H2 ∧ H2 p = some (.lst (((C'.set h (C'.getD c 0)).set c (lk q)).map V.int)), ?_, ?_⟩
    · rintro σ2 H2 ⟨rfl, S2, ep2⟩
      refine ⟨cs'.length, by simp, c :: ds, cs', _, _, rfl, rfl, L.turn ec, fun i => ?_, S2, ep2⟩
      rw [← hm i]
      simp only [List.mem_cons]
      constructor
      · rintro ((z | z) | z)
        · exact .inr (.inl z)
        · exact .inl z
        · exact .inr (.inr z)
      · rintro (z | z | z)
        · exact .inl (.inr z)
        · exact .inl (.inl z)
        · exact .inr z
    · walk_at "rd"
      refine ⟨p, _, _, _, rfl, rfl, .of ep, at_int L.ch.1, ?_⟩
      walk_at "rd"
      rw [lk_half]
      walk_at "rd"
      refine ⟨p, _, _, _, rfl, rfl, .of ep, at_int ec, ?_⟩
      walk_at "rd"
      refine ⟨p, _, _, h, rfl, rfl, ep, ix_nat lh', ?_⟩
      walk_at "rd"
      refine ⟨p, _, _, c, rfl, rfl, lst_set, ix_nat (by rw [List.length_set]; exact lc), ?_⟩
      exact ⟨rfl, same_mut hp (same_mut hp S), lst_set⟩
theorem head_div (n : Nat) (b : Bool) : (4 * (n : Int) + if b then 2 else 0) / 4 = (n : Int) := by cases b <;> simp <;> omega
theorem head_mark (n : Nat) (b : Bool) : ((4 * (n : Int) + if b then 2 else 0) % 4 = 2) ↔ b = true := by cases b <;> simp <;> omega
theorem at_row {M : Nat → Bool} {bs p r : List (List Int)} {fs sp : List Int} (e : bs = p ++ fs :: r) : (mflat M 0 bs ++ sp)[size p]? = some (4 * (fs.length : Int) + if M (size p) then 2 else 0) := by
  subst e
  exact row_head
theorem row_len {M : Nat → Bool} {bs : List (List Int)} {sp : List Int} : (mflat M 0 bs ++ sp).length = size bs + sp.length := by
  rw [List.length_append, mflat_length]
theorem row_marked {M : Nat → Bool} {bs p r : List (List Int)} {fs sp : List Int} (e : bs = p ++ fs :: r) : (mflat M 0 bs ++ sp).set (size p) (4 * (fs.length : Int) + 2) = mflat (mkd M (size p)) 0 bs ++ sp := by
  subst e
  exact row_mark
theorem places_len : ∀ (a : Nat) (bs : List (List Int)), (places a bs).length ≤ size bs
  | _, [] => Nat.le_refl _
  | a, fs :: r => by
    have := places_len (a + 1 + fs.length) r
    show (places (a + 1 + fs.length) r).length + 1 ≤ 1 + fs.length + size r
    omega
/-! #### heads -/
def sp_heads (K : PySem.W.Frag) : Sp := fun vs H Q _ => ∃ (a : Addr) (M : Nat → Bool) (bs : List (List Int)) (sp : List Int), vs = [.ref a, .int (size bs)] ∧ SqL K H a ((mflat M 0 bs ++ sp).map V.int) ∧ size bs ≤ 2000 ∧
    ∀ p H', H p = none → Same H H' → H' p = some (.lst ((places 0 bs).map natV)) → Q (.ref p) H'
theorem ok_heads (T : Txt K mg A) : FnOk P w K mg base CX0 2 A.f_heads A.d_heads ["row", "used"] (sp_heads K) := by
  refine T.F_heads.ok sc_heads (fun vs H Q E h => by obtain ⟨a, M, bs, sp, rfl, hS, hl, k⟩ := h; rfl) (fun cdv A' outer s H vs Q E hr h => ⟨_, (pss_cons (ps_set (i := 2) sc_heads.nd rfl (.inl rfl) (pe_lst pa_nil))
  (pss_cons (ps_set (i := 3) sc_heads.nd rfl (.inl rfl) pe_int)
  (pss_cons (ps_while PassesOwn.never (pt_cmpR op_ltI (pv 3) (pv 1) (nomark _))
  (pss_cons (ps_expr (pe_bm PySem.F.plainAttrs_list PySem.F.slot_list_append PySem.F.type_list_append mt_append (pv 2) (pa_cons (pv 3) pa_nil)))
  (pss_one (ps_set (i := 3) sc_heads.nd rfl (.inl rfl) (pe_op op_addI (pe_op op_addI (pv 3) pe_int) (pe_call (ok_fields_of T) (hr.mono (by decide)) (by rfl) T.m_fields_of T.F_fields_of.kp T.b_fields_of .nil pass0 (pa_cons (pe_ix (ix_listK (K := K) rfl) (pv 0) (pv 3) (fun _ _ => rfl)) pa_nil)))))))
  (pss_one (ps_ret (pv 2)))))), ?_⟩)
  obtain ⟨a, M, bs, sp, rfl, hS, hl, k⟩ := h
  refine ⟨Nat.zero_le _, fun p hp => ?_⟩
  walk_at "rd"
  refine ⟨fun m σ' H' => ∃ pre post, bs = pre ++ post ∧ m = post.length ∧ σ' = [some (.ref a), some (.int (size bs)), some (.ref p), some (.int (size pre))] ∧ Same H H' ∧ H' p = some (.lst ((places 0 pre).map natV)),
    ⟨_, [], bs, rfl, rfl, rfl, same_upd hp, upd_same⟩, ?_⟩
  rintro m σ' H' ⟨pre, post, eb, rfl, rfl, S, ep⟩
  cases post with
  | nil =>
    walk_at "rd"
    refine ifF (decide_eq_false (by rw [eb, List.append_nil]; omega)) ?_
    walk_at "rd"
    rw [List.append_nil] at eb
    exact k p H' hp S (by rw [eb]; exact ep)
  | cons fs r =>
    have hs := size_mid eb
    walk_at "rd"
    refine ifT (decide_eq_true (by omega)) ?_
    refine ⟨fun σ2 H2 => σ2 = [some (.ref a), some (.int (size bs)), some (.ref p), some (.int (size pre + 1 + fs.length : Nat))] ∧ Same H H2 ∧ H2 p = some (.lst ((places 0 (pre ++ [fs])).map natV)), ?_, ?_⟩
    · rintro σ2 H2 ⟨rfl, S2, ep2⟩
      refine ⟨r.length, by simp, pre ++ [fs], r, by rw [eb]; simp, rfl, ?_, S2, ep2⟩
      rw [size_append]
      show _ = [_, _, _, some (V.int ((size pre + (1 + fs.length + 0) : Nat) : Int))]
      rw [show size pre + (1 + fs.length + 0) = size pre + 1 + fs.length by omega]
    · walk_at "rd"
      refine ⟨.inl ⟨rfl, _, .of ep⟩, ?_⟩
      walk_at "rd"
      refine ⟨p, _, _, rfl, rfl, ep, sz2001 (by rw [List.length_map]; have := places_len 0 pre; omega), ?_⟩
      have S3 := fun o => same_mut (o := o) hp S
      walk_at "rd"
      refine ⟨a, _, _, _, rfl, rfl, (S3 _).seq hS, at_int (at_row eb), ?_⟩
      walk_at "rd"
      refine ⟨?_, S3 _, ?_⟩
      · rw [head_div]
        show [some (V.ref a), some (V.int (size bs)), some (V.ref p), some (V.int ((size pre : Int) + 1 + (fs.length : Int)))] = _
        rw [show ((size pre : Int) + 1 + (fs.length : Int)) = ((size pre + 1 + fs.length : Nat) : Int) by omega]
      · rw [upd_same, places_append, Nat.zero_add, List.map_append]
        rfl
/-! #### marked -/
def sp_marked (K : PySem.W.Frag) : Sp := fun vs H Q _ => ∃ (a : Addr) (bs : List (List Int)) (sp : List Int), vs = [.ref a, .int (size bs)] ∧ SqL K H a ((mflat (fun _ => false) 0 bs ++ sp).map V.int) ∧ size bs ≤ 2000 ∧ bs ≠ [] ∧ Valid bs ∧
    ∀ p H', H p = none → Same H H' → H' p = some (.lst ((mflat (alive bs) 0 bs ++ sp).map V.int)) → Q (.ref p) H'
theorem ok_marked (T : Txt K mg A) : FnOk P w K mg base CX0 2 A.f_marked A.d_marked ["row", "used"] (sp_marked K) := by
  refine T.F_marked.ok sc_marked (fun vs H Q E h => by obtain ⟨a, bs, sp, rfl, hS, hl, hne, hv, k⟩ := h; rfl) (fun cdv A' outer s H vs Q E hr h => ⟨_, (pss_cons (ps_set (i := 2) sc_marked.nd rfl (.inl rfl) (pe_callTy (call_list_ofK (K := K) rfl) (by rfl) T.z_list (by decide +kernel) (pa_cons (pv 0) pa_nil)))
  (pss_cons (ps_asg (pe_call (ok_head_word T) (hr.mono (by decide)) (by rfl) T.m_head_word T.F_head_word.kp T.b_head_word .nil pass0 (pa_cons (pe_call (ok_fields_of T) (hr.mono (by decide)) (by rfl) T.m_fields_of T.F_fields_of.kp T.b_fields_of .nil pass0 (pa_cons (pe_ix (ix_listK (K := K) rfl) (pv 2) pe_int (fun _ _ => rfl)) pa_nil)) (pa_cons pe_bl pa_nil))) (pg_sub (pv 2) pe_int set_list))
  (pss_cons (ps_set (i := 3) sc_marked.nd rfl (.inl rfl) (pe_lst (pa_cons pe_int pa_nil)))
  (pss_cons (ps_while PassesOwn.never (pt_cmpR op_gtI (pe_callB (call_lenK (K := K) rfl) (by rfl) T.z_len (by decide +kernel) (pa_cons (pv 3) pa_nil)) pe_int (nomark _))
  (pss_cons (ps_set (i := 4) sc_marked.nd rfl (.inl rfl) (pe_bm0 PySem.F.plainAttrs_list PySem.F.slot_list_pop PySem.F.type_list_pop mt_pop (pv 3)))
  (pss_one (ps_for PassesOwn.never rfl (pi_range2 rfl T.z_range (pa_cons (pe_op op_addI (pv 4) pe_int) (pa_cons (pe_callB (call_min2 rfl) (by rfl) T.z_min (by decide +kernel) (pa_cons (pv 1) (pa_cons (pe_op op_addI (pe_op op_addI (pv 4) pe_int) (pe_call (ok_fields_of T) (hr.mono (by decide)) (by rfl) T.m_fields_of T.F_fields_of.kp T.b_fields_of .nil pass0 (pa_cons (pe_ix (ix_listK (K := K) rfl) (pv 2) (pv 4) (fun _ _ => rfl)) pa_nil))) pa_nil))) pa_nil))) (pg_name (i := 5) sc_marked.nd rfl (.inl rfl))
  (pss_cons (ps_set (i := 6) sc_marked.nd rfl (.inl rfl) (pe_call (ok_told_by T) (hr.mono (by decide)) (by rfl) T.m_told_by T.F_told_by.kp T.b_told_by .nil pass0 (pa_cons (pe_ix (ix_listK (K := K) rfl) (pv 2) (pv 5) (fun _ _ => rfl)) pa_nil)))
  (pss_one (ps_if (PW.pt (pw_and (pt_val (pe_call (ok_is_link T) (hr.mono (by decide)) (by rfl) T.m_is_link T.F_is_link.kp T.b_is_link .nil pass0 (pa_cons (pe_ix (ix_listK (K := K) rfl) (pv 2) (pv 5) (fun _ _ => rfl)) pa_nil))) (pw_and1 (pt_not (pt_val (pe_call (ok_is_marked T) (hr.mono (by decide)) (by rfl) T.m_is_marked T.F_is_marked.kp T.b_is_marked .nil pass0 (pa_cons (pe_ix (ix_listK (K := K) rfl) (pv 2) (pv 6) (fun _ _ => rfl)) pa_nil)))))))
  (pss_cons (ps_asg (pe_call (ok_head_word T) (hr.mono (by decide)) (by rfl) T.m_head_word T.F_head_word.kp T.b_head_word .nil pass0 (pa_cons (pe_call (ok_fields_of T) (hr.mono (by decide)) (by rfl) T.m_fields_of T.F_fields_of.kp T.b_fields_of .nil pass0 (pa_cons (pe_ix (ix_listK (K := K) rfl) (pv 2) (pv 6) (fun _ _ => rfl)) pa_nil)) (pa_cons pe_bl pa_nil))) (pg_sub (pv 2) (pv 6) set_list))
  (pss_one (ps_expr (pe_bm PySem.F.plainAttrs_list PySem.F.slot_list_append PySem.F.type_list_append mt_append (pv 3) (pa_cons (pv 6) pa_nil)))))
  pss_nil)))))))
  (pss_one (ps_ret (pv 2))))))), ?_⟩)
  obtain ⟨a, bs, sp, rfl, hS, hl, hne, hv, k⟩ := h
  obtain ⟨gs, br, eb0⟩ : ∃ gs br, bs = [] ++ gs :: br := by
    cases bs with
    | nil => exact absurd rfl hne
    | cons g b => exact ⟨g, b, rfl⟩
  have p0 : 0 ∈ places 0 bs := by rw [eb0]; exact List.mem_cons_self
  have lb : 1 + gs.length + size br = size bs := by rw [eb0]; rfl
  -- cells = list(row); cells[0] = head_word(.., True)
  walk_at "rd"
  refine ⟨a, _, rfl, .inl hS, fun p hp => ?_⟩
  walk_at "rd"
  refine ⟨p, _, _, _, rfl, rfl, .of upd_same, at_int (i := 0) (at_row eb0), ?_⟩
  walk_at "rd"
  rw [head_div]
  refine ⟨p, _, _, 0, rfl, rfl, upd_same, ix_nat (c := 0) (by rw [row_len]; omega), ?_⟩
  have e1 : ((mflat (fun _ => false) 0 bs ++ sp).map V.int).set 0 (.int (4 * (gs.length : Int) + if true then 2 else 0)) = (mflat (mkd (fun _ => false) 0) 0 bs ++ sp).map V.int := by
    rw [set_ints]
    exact congrArg (List.map V.int) (row_marked eb0)
  rw [e1]
  have S1 := fun o => same_mut (o := o) hp (same_upd (o := .lst ((mflat (fun _ => false) 0 bs ++ sp).map V.int)) hp)
  walk_at "rd"
  refine ⟨by show 1 ≤ sizeLine; decide, fun w hw => ?_⟩
  have npw : p ≠ w := fun e => by rw [← e, upd_same] at hw; cases hw
  have hw0 : H w = none := (S1 _).free hw
  refine ⟨fun m σ' H' => ∃ (M : Nat → Bool) (W : List Nat) (y1 y2 y3 : Option V), m = 2 * unm M (places 0 bs) + W.length ∧ σ' = [some (.ref a), some (.int (size bs)), some (.ref p), some (.ref w), y1, y2, y3] ∧ Mk bs M W (fun _ => False) ∧ W.length + unm M (places 0 bs) ≤ 3000
      ∧ Same H H' ∧ H' p = some (.lst ((mflat M 0 bs ++ sp).map V.int)) ∧ H' w = some (.lst (W.map natV)),
    ⟨_, mkd (fun _ => false) 0, [0], none, none, none, rfl, rfl, .start p0, ?_, (S1 _).trans (same_upd hw), by rw [upd_ne npw, upd_same], upd_same⟩, ?_⟩
  · have h1 := unm_le (M := fun _ => false) (h := 0) (places 0 bs)
    have h2 : ∀ l : List Nat, unm (fun _ => false) l = l.length := fun l => by
      induction l with
      | nil => rfl
      | cons x r ih =>
        show 1 + unm (fun _ => false) r = r.length + 1
        rw [ih]
        omega
    have h3 := places_len 0 bs
    rw [h2] at h1
    show 1 + _ ≤ 3000
    omega
  clear S1 e1 hw
  rintro m σ' H' ⟨M, W, y1, y2, y3, rfl, rfl, I, hb, S, ep, ew⟩
  rcases List.eq_nil_or_concat W with rfl | ⟨W', h, rfl⟩
  · walk_at "rd"
    refine ⟨w, _, rfl, .inl (.of ew), ?_⟩
    walk_at "rd"
    refine k p H' hp S ?_
    have e : M = alive bs := funext I.all
    rw [← e]
    exact ep
  · rw [List.concat_eq_append] at *
    walk_at "rd"
    refine ⟨w, _, rfl, .inl (.of ew), ?_⟩
    walk_at "rd"
    refine ifT (decide_eq_true (by rw [List.length_map, List.length_append]; simp)) ?_
    have Mh := I.wait h (by simp)
    obtain ⟨q, fs, r, eb, rfl⟩ := places_at (I.re h Mh).1
    have hs := size_mid eb
    refine ⟨fun σ2 H2 => ∃ m', m' < 2 * unm M (places 0 bs) + (W' ++ [size q]).length ∧ ∃ (M : Nat → Bool) (W : List Nat) (y1 y2 y3 : Option V), m' = 2 * unm M (places 0 bs) + W.length ∧ σ2 = [some (.ref a), some (.int (size bs)), some (.ref p), some (.ref w), y1, y2, y3] ∧ Mk bs M W (fun _ => False) ∧ W.length + unm M (places 0 bs) ≤ 3000
      ∧ Same H H2 ∧ H2 p = some (.lst ((mflat M 0 bs ++ sp).map V.int)) ∧ H2 w = some (.lst (W.map natV)), fun _ _ z => z, ?_⟩
    -- head = waiting.pop()
    walk_at "rd"
    refine ⟨.inl ⟨rfl, _, .of ew⟩, ?_⟩
    refine ⟨w, _, natV (size q), rfl, rfl, ew, ?_, ?_⟩
    · rw [List.map_append, List.length_append]
      simp [List.getElem?_append_right]
    have e2 : ((W' ++ [size q]).map natV).dropLast = W'.map natV := by
      rw [List.map_append]
      exact List.dropLast_concat
    rw [e2]
    have S2 := fun o => same_mut (o := o) hw0 S
    have ep2 : ∀ o, (upd H' w o) p = some (.lst ((mflat M 0 bs ++ sp).map V.int)) := fun o => by rw [upd_ne npw]; exact ep
    -- for at in range(..)
    walk_at "rd"
    refine ⟨p, _, _, _, rfl, rfl, .of (ep2 _), at_int (at_row eb), ?_⟩
    walk_at "rd"
    rw [head_div]
    have e3 : (if ((size q : Int) + 1 + (fs.length : Int)) < (size bs : Int) then ((size q : Int) + 1 + (fs.length : Int)) else (size bs : Int)) = ((size q : Int) + 1 + (fs.length : Int)) := by split <;> omega
    rw [e3]
    refine ⟨by omega, ?_⟩
    rw [show ((size q : Int) + 1 + (fs.length : Int) - ((size q : Int) + 1)).toNat = fs.length by omega]
    have hm0 : 2 * unm M (places 0 bs) + W'.length < 2 * unm M (places 0 bs) + (W' ++ [size q]).length := by simp
    have hb0 : W'.length + unm M (places 0 bs) ≤ 3000 := by
      rw [List.length_append] at hb
      omega
    generalize hm : 2 * unm M (places 0 bs) + (W' ++ [size q]).length = m0 at hm0
    refine for_range (lo := (size q : Int) + 1) (n := fs.length) (fun f σ2 H2 => ∃ (M : Nat → Bool) (W : List Nat) (y2 y3 : Option V), 2 * unm M (places 0 bs) + W.length < m0 ∧ σ2 = [some (.ref a), some (.int (size bs)), some (.ref p), some (.ref w), some (natV (size q)), y2, y3] ∧ TS.Mk bs M W (fun x => x = size q) ∧ M (size q) = true ∧ Fd fs M f ∧ W.length + unm M (places 0 bs) ≤ 3000
      ∧ Same H H2 ∧ H2 p = some (.lst ((mflat M 0 bs ++ sp).map V.int)) ∧ H2 w = some (.lst (W.map natV)))
      ⟨M, W', y2, y3, hm0, rfl, I.pop, Mh, fun i h hi => absurd hi (Nat.not_lt_zero _), hb0, S2 _, ep2 _, upd_same⟩ ?_ ?_
    · clear e3 ep2 S2 e2 Mh hb ew I ep S y1 y2 y3 hm0 hb0 hm H' M W'
      rintro f σ2 H2 hf ⟨M, W, y2, y3, hm, rfl, I, Mq, F, hb, S, ep, ew⟩
      have gf : (mflat M 0 bs ++ sp)[size q + 1 + f]? = fs[f]? := by
        have := row_field (M := M) (sp := sp) (p := q) (r := r) hf
        rw [← eb] at this
        exact this
      obtain ⟨x, ex⟩ : ∃ x, fs[f]? = some x := ⟨fs[f], List.getElem?_eq_getElem hf⟩
      rw [ex] at gf
      have ef : (size q : Int) + 1 + (f : Int) = ((size q + 1 + f : Nat) : Int) := by omega
      walk_at "rd"
      rw [ef]
      -- goal = told_by(cells[at])
      refine ⟨p, _, _, _, rfl, rfl, .of ep, at_int gf, ?_⟩
      walk_at "rd"
      refine ⟨p, _, _, _, rfl, rfl, .of ep, at_int gf, ?_⟩
      walk_at "rd"
      by_cases ho : x % 2 = 1
      · obtain ⟨g, rfl, hg⟩ := hv fs (by rw [eb]; simp) x (List.mem_of_getElem? ex) ho
        obtain ⟨q2, fs2, r2, eb2, eg⟩ := places_at hg
        refine ifT (decide_eq_true ho) ?_
        rw [lk_half]
        walk_at "rd"
        have gg := at_row (M := M) (sp := sp) eb2
        rw [← eg] at gg
        refine ⟨p, _, _, _, rfl, rfl, .of ep, at_int gg, ?_⟩
        walk_at "rd"
        by_cases hMg : M g = true
        · refine ifF ?_ ⟨M, W, _, _, hm, rfl, I, Mq, ?_, hb, S, ep, ew⟩
          · rw [decide_eq_true ((head_mark _ _).mpr hMg)]
            rfl
          · intro i h hi hx
            by_cases z : i < f
            · exact F i h z hx
            · have : i = f := by omega
              subst this
              rw [ex] at hx
              have := lk_inj (Option.some.inj hx)
              rw [← this]
              exact hMg
        · refine ifT ?_ ?_
          · rw [decide_eq_false (fun z => hMg ((head_mark _ _).mp z))]
            rfl
          walk_at "rd"
          refine ⟨p, _, _, _, rfl, rfl, .of ep, at_int gg, ?_⟩
          walk_at "rd"
          rw [head_div]
          walk_at "rd"
          refine ⟨p, _, _, g, rfl, rfl, ep, ix_nat (by rw [row_len, eg]; have := size_mid eb2; omega), ?_⟩
          have e1 : ((mflat M 0 bs ++ sp).map V.int).set g (.int (4 * (fs2.length : Int) + if true then 2 else 0)) = (mflat (mkd M g) 0 bs ++ sp).map V.int := by
            rw [set_ints, eg]
            exact congrArg (List.map V.int) (row_marked eb2)
          rw [e1]
          walk_at "rd"
          have ew2 : ∀ o, (upd H2 p o) w = some (.lst (W.map natV)) := fun o => by rw [upd_ne npw.symm]; exact ew
          refine ⟨.inl ⟨rfl, _, .of (ew2 _)⟩, ?_⟩
          walk_at "rd"
          refine ⟨w, _, _, rfl, rfl, ew2 _, sz2001 (by rw [List.length_map]; omega), ?_⟩
          have hu := unm_lt (M := M) (h := g) (by simpa using hMg) hg
          refine ⟨mkd M g, W ++ [g], _, _, ?_, rfl, I.push eb Mq (List.mem_of_getElem? ex) hg, mkd_of Mq, ?_, ?_, same_mut hw0 (same_mut hp S), by rw [upd_ne npw, upd_same], ?_⟩
          · rw [List.length_append]
            show _ + (_ + 1) < _
            omega
          · intro i h hi hx
            by_cases z : i < f
            · exact mkd_of (F i h z hx)
            · have : i = f := by omega
              subst this
              rw [ex] at hx
              have := lk_inj (Option.some.inj hx)
              rw [← this]
              exact mkd_self
          · rw [List.length_append]
            show _ + 1 + _ ≤ _
            omega
          · rw [upd_same, List.map_append]
            rfl
      · refine ifF (decide_eq_false ho) ?_
        refine ifF rfl ⟨M, W, _, _, hm, rfl, I, Mq, ?_, hb, S, ep, ew⟩
        intro i h hi hx
        by_cases z : i < f
        · exact F i h z hx
        · have : i = f := by omega
          subst this
          rw [ex] at hx
          have := Option.some.inj hx
          rw [this] at ho
          exact absurd (lk_odd h) ho
    · rintro σ2 H2 ⟨M, W, y2, y3, hm, rfl, I, Mq, F, hb, S, ep, ew⟩
      exact ⟨_, hm, M, W, _, _, _, rfl, rfl, I.done eb F, hb, S, ep, ew⟩
theorem cut_to (xs : List V) (k : Nat) : cutV xs none (some (k : Int)) = xs.take k := by
  unfold cutV
  rw [HT.sIx_nat, HT.sIx_none, List.drop_zero, Nat.sub_zero]
  by_cases h : k ≤ xs.length
  · rw [Nat.min_eq_left h]
  · rw [Nat.min_eq_right (by omega), List.take_of_length_le (Nat.le_refl _), List.take_of_length_le (by omega)]
theorem take_set {α : Type} {l : List α} {n : Nat} {x : α} (h : n < l.length) : (l.set n x).take (n + 1) = l.take n ++ [x] := by
  rw [List.take_add_one, List.getElem?_set_self h, List.take_set_of_le (Nat.le_refl n)]
  rfl
theorem take_eq {l m : List Int} {n : Nat} (h : ∀ i, i < n → l[i]? = m[i]?) : l.take n = m.take n := by
  refine List.ext_getElem? fun i => ?_
  rw [List.getElem?_take, List.getElem?_take]
  split
  · exact h i (by assumption)
  · rfl
theorem ksize_snoc {al : Nat → Bool} {pre : List (List Int)} {fs : List Int} : ksize al 0 (pre ++ [fs]) = ksize al 0 pre + if al (size pre) then 1 + fs.length else 0 := by
  rw [ksize_append, Nat.zero_add]
  rfl
theorem outR_snoc {al : Nat → Bool} {q : Nat → Nat} {pre : List (List Int)} {fs : List Int} : outR al q 0 (pre ++ [fs]) = outR al q 0 pre ++ if al (size pre) then (4 * (fs.length : Int)) :: fs.map (relink q) else [] := by
  rw [outR_append, Nat.zero_add]
  show _ ++ (_ ++ []) = _
  rw [List.append_nil]
theorem size_snoc {pre : List (List Int)} {fs : List Int} : size (pre ++ [fs]) = size pre + 1 + fs.length := by
  rw [size_append]
  show size pre + (1 + fs.length + 0) = _
  omega
theorem ksize_pre {al : Nat → Bool} {pre : List (List Int)} : ksize al 0 pre ≤ size pre := ksize_le al 0 pre
/-! #### stays -/
def sp_stays (K : PySem.W.Frag) : Sp := fun vs H Q _ => ∃ n : Int, vs = [.int n] ∧ Q (.bl (decide (n % 2 = 1 ∨ n % 4 = 2))) H
theorem ok_stays (T : Txt K mg A) : FnOk P w K mg base CX0 2 A.f_stays A.d_stays ["word"] (sp_stays K) := by
  refine T.F_stays.ok sc_stays (fun vs H Q E h => by obtain ⟨n, rfl, h⟩ := h; rfl) (fun cdv A' outer s H vs Q E hr h => ⟨_, (pss_one (ps_ret (pe_or (pe_call (ok_is_link T) (hr.mono (by decide)) (by rfl) T.m_is_link T.F_is_link.kp T.b_is_link .nil pass0 (pa_cons (pv 0) pa_nil)) (pe_one (pe_call (ok_is_marked T) (hr.mono (by decide)) (by rfl) T.m_is_marked T.F_is_marked.kp T.b_is_marked .nil pass0 (pa_cons (pv 0) pa_nil)))))), ?_⟩)
  obtain ⟨n, rfl, h⟩ := h
  walk_at "rd"
  by_cases c : n % 2 = 1
  · refine ifT (decide_eq_true c) ?_
    rw [decide_eq_true (Or.inl c)] at h
    exact h
  · refine ifF (decide_eq_false c) ?_
    walk_at "rd"
    have e : decide (n % 2 = 1 ∨ n % 4 = 2) = decide (n % 4 = 2) := by simp [c]
    rw [e] at h
    exact h
/-! #### hung_up -/
def sp_hung_up (K : PySem.W.Frag) : Sp := fun vs H Q _ => ∃ (a : Addr) (al : Nat → Bool) (bs : List (List Int)) (sp : List Int), vs = [.ref a, .int (size bs)] ∧ SqL K H a ((rowM al bs sp).map V.int) ∧ size bs + sp.length ≤ 2000 ∧ al 0 = true ∧ bs ≠ [] ∧ Live al bs ∧
    ∀ p H' C, H p = none → Same H H' → H' p = some (.lst (C.map V.int)) → CInv C (size bs + sp.length) 0 (HD al bs) (wd (rowM al bs sp)) (ex2 al bs (rowM al bs sp) 0) → Q (.ref p) H'
theorem ok_hung_up (T : Txt K mg A) : FnOk P w K mg base CX0 3 A.f_hung_up A.d_hung_up ["row", "used"] (sp_hung_up K) := by
  refine T.F_hung_up.ok sc_hung_up (fun vs H Q E h => by obtain ⟨a, al, bs, sp, rfl, hS, hl, h0, hne, L, k⟩ := h; rfl) (fun cdv A' outer s H vs Q E hr h => ⟨_, (pss_cons (ps_set (i := 2) sc_hung_up.nd rfl (.inl rfl) (pv 0))
  (pss_cons (ps_set (i := 3) sc_hung_up.nd rfl (.inl rfl) pe_int)
  (pss_cons (ps_set (i := 4) sc_hung_up.nd rfl (.inl rfl) pe_int)
  (pss_cons (ps_while PassesOwn.never (pt_cmpR op_ltI (pv 3) (pv 1) (nomark _))
  (Evl.pss_cut (ps_if (pt_val (pe_call (ok_stays T) (hr.mono (by decide)) (by rfl) T.m_stays T.F_stays.kp T.b_stays .nil pass0 (pa_cons (pe_ix (ix_listK (K := K) rfl) (pv 2) (pv 3) (fun _ _ => rfl)) pa_nil)))
  (pss_cons (ps_set (i := 2) sc_hung_up.nd rfl (.inl rfl) (pe_call (ok_led T) (hr.mono (by decide)) (by rfl) T.m_led T.F_led.kp T.b_led .nil pass0 (pa_cons (pv 2) (pa_cons (pv 3) (pa_cons (pv 4) pa_nil)))))
  (pss_cons (ps_set (i := 5) sc_hung_up.nd rfl (.inl rfl) (pe_call (ok_fields_of T) (hr.mono (by decide)) (by rfl) T.m_fields_of T.F_fields_of.kp T.b_fields_of .nil pass0 (pa_cons (pe_ix (ix_listK (K := K) rfl) (pv 2) (pv 3) (fun _ _ => rfl)) pa_nil)))
  (pss_cons (ps_for PassesOwn.never rfl (pi_range2 rfl T.z_range (pa_cons (pe_op op_addI (pv 3) pe_int) (pa_cons (pe_op op_addI (pe_op op_addI (pv 3) pe_int) (pv 5)) pa_nil))) (pg_name (i := 6) sc_hung_up.nd rfl (.inl rfl))
  (pss_one (ps_if (pt_val (pe_call (ok_is_link T) (hr.mono (by decide)) (by rfl) T.m_is_link T.F_is_link.kp T.b_is_link .nil pass0 (pa_cons (pe_ix (ix_listK (K := K) rfl) (pv 2) (pv 6) (fun _ _ => rfl)) pa_nil)))
  (pss_one (ps_set (i := 2) sc_hung_up.nd rfl (.inl rfl) (pe_call (ok_hung T) (hr.mono (by decide)) (by rfl) T.m_hung T.F_hung.kp T.b_hung .nil pass0 (pa_cons (pv 2) (pa_cons (pv 6) pa_nil)))))
  pss_nil)))
  (pss_one (ps_set (i := 4) sc_hung_up.nd rfl (.inl rfl) (pe_op op_addI (pe_op op_addI (pv 4) pe_int) (pv 5)))))))
  (pss_one (ps_set (i := 5) sc_hung_up.nd rfl (.inl rfl) (pe_call (ok_fields_of T) (hr.mono (by decide)) (by rfl) T.m_fields_of T.F_fields_of.kp T.b_fields_of .nil pass0 (pa_cons (pe_ix (ix_listK (K := K) rfl) (pv 2) (pv 3) (fun _ _ => rfl)) pa_nil)))))
  (pss_one (ps_set (i := 3) sc_hung_up.nd rfl (.inl rfl) (pe_op op_addI (pe_op op_addI (pv 3) pe_int) (pv 5))))))
  (pss_one (ps_ret (pv 2))))))), ?_⟩)
  obtain ⟨a, al, bs, sp, rfl, hS, hl, h0, hne, L, k⟩ := h
  walk_at "rd"
  refine ⟨fun m σ' H' => ∃ pre post C c y5 y6, bs = pre ++ post ∧ m = post.length ∧ σ' = [some (.ref a), some (.int (size bs)), some (.ref c), some (.int (size pre)), some (.int (ksize al 0 pre)), y5, y6] ∧ Same H H' ∧ SqL K H' c (C.map V.int) ∧ (pre ≠ [] → H c = none ∧ H' c = some (.lst (C.map V.int)))
      ∧ CInv C (size bs + sp.length) 0 (HD al bs) (wd (rowM al bs sp)) (ex1 al bs (rowM al bs sp) (size pre) (size pre)),
    ⟨_, [], bs, _, a, none, none, rfl, rfl, rfl, Same.refl _, hS, fun z => absurd rfl z, p1_start⟩, ?_⟩
  rintro m σ' H' ⟨pre, post, C, c, y5, y6, eb, rfl, rfl, S, hC, hc, I⟩
  cases post with
  | nil =>
    rw [List.append_nil] at eb
    subst eb
    obtain ⟨hc1, hc2⟩ := hc hne
    walk_at "rd"
    refine ifF (decide_eq_false (by omega)) ?_
    walk_at "rd"
    exact k c H' C hc1 S hc2 (p1_end L I)
  | cons fs r =>
    have hs := size_mid eb
    walk_at "rd"
    refine ifT (decide_eq_true (by omega)) ?_
    obtain ⟨x, ex, hx, hd⟩ := head_stays I (by omega) eb (Nat.zero_le _) (fun _ => ex1_head eb)
    refine ⟨fun σ2 H2 => ∃ (C : List Int) (c : Addr) (y6 : Option V), σ2 = [some (.ref a), some (.int (size bs)), some (.ref c), some (.int (size (pre ++ [fs]))), some (.int (ksize al 0 (pre ++ [fs]))), some (.int fs.length), y6] ∧ Same H H2 ∧ H c = none ∧ H2 c = some (.lst (C.map V.int))
      ∧ CInv C (size bs + sp.length) 0 (HD al bs) (wd (rowM al bs sp)) (ex1 al bs (rowM al bs sp) (size pre + 1 + fs.length) (size pre + 1 + fs.length)), ?_, ?_⟩
    · rintro σ2 H2 ⟨C, c, y6, rfl, S2, hc1, hc2, I2⟩
      refine ⟨r.length, by simp, pre ++ [fs], r, C, c, _, _, by rw [eb]; simp, rfl, rfl, S2, .of hc2, fun _ => ⟨hc1, hc2⟩, ?_⟩
      rw [size_snoc]
      exact I2
    · refine ⟨fun σ2 H2 => ∃ (C : List Int) (c : Addr) (y6 : Option V), σ2 = [some (.ref a), some (.int (size bs)), some (.ref c), some (.int (size pre)), some (.int (ksize al 0 (pre ++ [fs]))), some (.int fs.length), y6] ∧ Same H H2 ∧ H c = none ∧ H2 c = some (.lst (C.map V.int))
        ∧ CInv C (size bs + sp.length) 0 (HD al bs) (wd (rowM al bs sp)) (ex1 al bs (rowM al bs sp) (size pre + 1 + fs.length) (size pre + 1 + fs.length)), ?_, ?_⟩
      · walk_at "rd"
        refine ⟨c, _, _, _, rfl, rfl, hC, at_int ex, ?_⟩
        walk_at "rd"
        cases ha : al (size pre) with
        | true =>
          refine ifT (decide_eq_true (hx.mpr ha)) ?_
          have hhd : HD al bs (size pre) := ⟨by rw [eb]; exact places_mid, ha⟩
          obtain ⟨cs, nd, hm, ch⟩ := I.ch (size pre) (Nat.zero_le _) hhd
          have hw := wd_head (al := al) (sp := sp) eb
          rw [ha, if_pos rfl] at hw
          walk_at "rd"
          refine ⟨c, C, size pre, ksize al 0 pre, cs, _, rfl, hC, by rw [I.len]; omega, ch, nd, by rw [hw]; omega, fun p1 H1 C1 hp1 s1 L1 e1 => ?_⟩
          have I1 := p1_led L eb ha I hm L1
          have hh1 := L1.head
          rw [hw] at hh1
          have n1 : H p1 = none := S.free hp1
          walk_at "rd"
          refine ⟨p1, _, _, _, rfl, rfl, .of e1, at_int hh1, ?_⟩
          walk_at "rd"
          rw [show (4 * (fs.length : Int) + 2) / 4 = (fs.length : Int) by omega]
          walk_at "rd"
          refine ⟨by omega, ?_⟩
          rw [show ((size pre : Int) + 1 + (fs.length : Int) - ((size pre : Int) + 1)).toNat = fs.length by omega]
          refine for_range (lo := (size pre : Int) + 1) (n := fs.length) (fun f σ2 H2 => ∃ (C : List Int) (c : Addr) (y6 : Option V), σ2 = [some (.ref a), some (.int (size bs)), some (.ref c), some (.int (size pre)), some (.int (ksize al 0 pre)), some (.int fs.length), y6] ∧ Same H H2 ∧ H c = none ∧ H2 c = some (.lst (C.map V.int))
            ∧ CInv C (size bs + sp.length) 0 (HD al bs) (wd (rowM al bs sp)) (ex1 al bs (rowM al bs sp) (size pre + 1 + fs.length) (size pre + 1 + f)))
            ⟨C1, p1, y6, rfl, S.trans s1, n1, e1, I1⟩ ?_ ?_
          · rintro f σ2 H2 hf ⟨C2, c2, y6, rfl, S2, hc2, e2, I2⟩
            rw [show (size pre : Int) + 1 + (f : Int) = ((size pre + 1 + f : Nat) : Int) by omega]
            have gx := p1_cell eb I2 (show size pre < size pre + 1 + f by omega) (by omega)
            walk_at "rd"
            refine ⟨c2, _, _, _, rfl, rfl, .of e2, at_int gx, ?_⟩
            walk_at "rd"
            by_cases ho : wd (rowM al bs sp) (size pre + 1 + f) % 2 = 1
            · refine ifT (decide_eq_true ho) ?_
              obtain ⟨ew, lt, I3⟩ := p1_hung L eb ha I2 (show size pre < size pre + 1 + f by omega) (by omega) ho
              walk_at "rd"
              refine ⟨c2, C2, size pre + 1 + f, tg (rowM al bs sp) (size pre + 1 + f), rfl, .of e2, by rw [I2.len]; omega, by rw [gx, ew], by rw [I2.len]; omega, fun p3 H3 hp3 s3 e3 => ?_⟩
              exact ⟨_, p3, _, rfl, S2.trans s3, S2.free hp3, e3, I3⟩
            · refine ifF (decide_eq_false ho) ?_
              exact ⟨C2, c2, _, rfl, S2, hc2, e2, p1_skip I2 ho⟩
          · rintro σ2 H2 ⟨C2, c2, y6, rfl, S2, hc2, e2, I2⟩
            walk_at "rd"
            refine ⟨C2, c2, y6, ?_, S2, hc2, e2, I2⟩
            rw [ksize_snoc, ha, if_pos rfl]
            show [_, _, _, _, some (V.int ((ksize al 0 pre : Int) + 1 + (fs.length : Int))), _, _] = _
            rw [show ((ksize al 0 pre : Int) + 1 + (fs.length : Int)) = ((ksize al 0 pre + (1 + fs.length) : Nat) : Int) by omega]
        | false =>
          have npre : pre ≠ [] := fun z => by
            rw [z] at ha
            have : al 0 = false := ha
            rw [h0] at this
            cases this
          obtain ⟨hc1, hc2⟩ := hc npre
          refine ifF (decide_eq_false fun z => by have := hx.mp z; rw [ha] at this; cases this) ?_
          rw [hd ha] at ex
          walk_at "rd"
          refine ⟨c, _, _, _, rfl, rfl, hC, at_int ex, ?_⟩
          walk_at "rd"
          rw [show (4 * (fs.length : Int)) / 4 = (fs.length : Int) by omega]
          refine ⟨C, c, y6, ?_, S, hc1, hc2, p1_dead L eb ha I⟩
          rw [ksize_snoc, ha, if_neg Bool.false_ne_true, Nat.add_zero]
          rfl
      · rintro σ2 H2 ⟨C2, c2, y6, rfl, S2, hc2, e2, I2⟩
        walk_at "rd"
        refine ⟨C2, c2, y6, ?_, S2, hc2, e2, I2⟩
        show [_, _, _, some (V.int ((size pre : Int) + 1 + (fs.length : Int))), _, _, _] = _
        rw [size_snoc, show ((size pre : Int) + 1 + (fs.length : Int)) = ((size pre + 1 + fs.length : Nat) : Int) by omega]
/-! #### slid -/
def sp_slid (K : PySem.W.Frag) : Sp := fun vs H Q _ => ∃ (a : Addr) (al : Nat → Bool) (bs : List (List Int)) (sp C : List Int), vs = [.ref a, .int (size bs)] ∧ SqL K H a (C.map V.int) ∧ size bs + sp.length ≤ 2000 ∧ al 0 = true ∧ bs ≠ [] ∧ Live al bs ∧
    CInv C (size bs + sp.length) 0 (HD al bs) (wd (rowM al bs sp)) (ex2 al bs (rowM al bs sp) 0) ∧
    ∀ t p H', H t = none → H p = none → Same H H' → H' t = some (.tup [.ref p, .int (ksize al 0 bs)]) → H' p = some (.lst ((outR al (qf al bs) 0 bs ++ List.replicate (size bs + sp.length - ksize al 0 bs) 0).map V.int)) → Q (.ref t) H'
theorem ok_slid (T : Txt K mg A) : FnOk P w K mg base CX0 3 A.f_slid A.d_slid ["row", "used"] (sp_slid K) := by
  refine T.F_slid.ok sc_slid (fun vs H Q E h => by obtain ⟨a, al, bs, sp, C0, rfl, hS, hl, h0, hne, L, I0, k⟩ := h; rfl) (fun cdv A' outer s H vs Q E hr h => ⟨_, (pss_cons (ps_set (i := 2) sc_slid.nd rfl (.inl rfl) (pv 0))
  (pss_cons (ps_set (i := 3) sc_slid.nd rfl (.inl rfl) pe_int)
  (pss_cons (ps_set (i := 4) sc_slid.nd rfl (.inl rfl) pe_int)
  (pss_cons (ps_while PassesOwn.never (pt_cmpR op_ltI (pv 3) (pv 1) (nomark _))
  (Evl.pss_cut (ps_if (pt_val (pe_call (ok_stays T) (hr.mono (by decide)) (by rfl) T.m_stays T.F_stays.kp T.b_stays .nil pass0 (pa_cons (pe_ix (ix_listK (K := K) rfl) (pv 2) (pv 3) (fun _ _ => rfl)) pa_nil)))
  (pss_cons (ps_set (i := 2) sc_slid.nd rfl (.inl rfl) (pe_call (ok_led T) (hr.mono (by decide)) (by rfl) T.m_led T.F_led.kp T.b_led .nil pass0 (pa_cons (pv 2) (pa_cons (pv 3) (pa_cons (pv 4) pa_nil)))))
  (pss_cons (ps_set (i := 5) sc_slid.nd rfl (.inl rfl) (pe_call (ok_fields_of T) (hr.mono (by decide)) (by rfl) T.m_fields_of T.F_fields_of.kp T.b_fields_of .nil pass0 (pa_cons (pe_ix (ix_listK (K := K) rfl) (pv 2) (pv 3) (fun _ _ => rfl)) pa_nil)))
  (pss_cons (ps_asg (pe_call (ok_head_word T) (hr.mono (by decide)) (by rfl) T.m_head_word T.F_head_word.kp T.b_head_word .nil pass0 (pa_cons (pv 5) (pa_cons pe_bl pa_nil))) (pg_sub (pv 2) (pv 4) set_list))
  (pss_cons (ps_for PassesOwn.never rfl (pi_range2 rfl T.z_range (pa_cons pe_int (pa_cons (pe_op op_addI pe_int (pv 5)) pa_nil))) (pg_name (i := 6) sc_slid.nd rfl (.inl rfl))
  (pss_one (ps_asg (pe_ix (ix_listK (K := K) rfl) (pv 2) (pe_op op_addI (pv 3) (pv 6)) (fun _ _ => rfl)) (pg_sub (pv 2) (pe_op op_addI (pv 4) (pv 6)) set_list))))
  (pss_one (ps_set (i := 4) sc_slid.nd rfl (.inl rfl) (pe_op op_addI (pe_op op_addI (pv 4) pe_int) (pv 5))))))))
  (pss_one (ps_set (i := 5) sc_slid.nd rfl (.inl rfl) (pe_call (ok_fields_of T) (hr.mono (by decide)) (by rfl) T.m_fields_of T.F_fields_of.kp T.b_fields_of .nil pass0 (pa_cons (pe_ix (ix_listK (K := K) rfl) (pv 2) (pv 3) (fun _ _ => rfl)) pa_nil)))))
  (pss_one (ps_set (i := 3) sc_slid.nd rfl (.inl rfl) (pe_op op_addI (pe_op op_addI (pv 3) pe_int) (pv 5))))))
  (pss_one (ps_ret (pe_tup (pa_cons (pe_op op_cat (pe_slice (sl_listK (K := K) rfl) (pv 2) po_none (po_some (pv 4))) (pe_op op_rep (pe_lst (pa_cons pe_int pa_nil)) (pe_op op_subI (pe_callB (call_lenK (K := K) rfl) (by rfl) T.z_len (by decide +kernel) (pa_cons (pv 2) pa_nil)) (pv 4)))) (pa_cons (pv 4) pa_nil))))))))), ?_⟩)
  obtain ⟨a, al, bs, sp, C0, rfl, hS, hl, h0, hne, L, I0, k⟩ := h
  walk_at "rd"
  refine ⟨fun m σ' H' => ∃ pre post C c y5 y6, bs = pre ++ post ∧ m = post.length ∧ σ' = [some (.ref a), some (.int (size bs)), some (.ref c), some (.int (size pre)), some (.int (ksize al 0 pre)), y5, y6] ∧ Same H H' ∧ SqL K H' c (C.map V.int) ∧ (pre ≠ [] → H c = none ∧ H' c = some (.lst (C.map V.int)))
      ∧ CInv C (size bs + sp.length) (size pre) (HD al bs) (wd (rowM al bs sp)) (ex2 al bs (rowM al bs sp) (size pre)) ∧ C.take (ksize al 0 pre) = outR al (qf al bs) 0 pre,
    ⟨_, [], bs, C0, a, none, none, rfl, rfl, rfl, Same.refl _, hS, fun z => absurd rfl z, I0, rfl⟩, ?_⟩
  rintro m σ' H' ⟨pre, post, C, c, y5, y6, eb, rfl, rfl, S, hC, hc, I, ht⟩
  cases post with
  | nil =>
    rw [List.append_nil] at eb
    subst eb
    obtain ⟨hc1, hc2⟩ := hc hne
    have hk := ksize_pre (al := al) (pre := bs)
    walk_at "rd"
    refine ifF (decide_eq_false (by omega)) ?_
    walk_at "rd"
    refine ⟨c, _, rfl, hC, fun s1 hs1 => ?_⟩
    have n1 := ne_of_none hc2 hs1
    refine ⟨by show 1 ≤ sizeLine; decide, fun z1 hz1 => ?_⟩
    have n2 : c ≠ z1 := fun z => by rw [← z, upd_ne n1, hc2] at hz1; cases hz1
    have n12 : s1 ≠ z1 := fun z => by rw [← z, upd_same] at hz1; cases hz1
    walk_at "rd"
    refine ⟨c, _, rfl, .inl (.of (by rw [upd_ne n2, upd_ne n1]; exact hc2)), ?_⟩
    walk_at "rd"
    rw [List.length_map, I.len]
    rw [show ((size bs + sp.length : Nat) : Int) - (ksize al 0 bs : Int) = ((size bs + sp.length - ksize al 0 bs : Nat) : Int) by omega]
    refine ⟨z1, _, _, rfl, rfl, upd_same, by omega, by omega, sz2000 (by rw [Int.toNat_natCast]; show 1 * _ ≤ _; omega), fun z2 hz2 => ?_⟩
    rw [Int.toNat_natCast, List.flatten_replicate_singleton]
    have n13 : s1 ≠ z2 := fun z => by rw [← z, upd_ne n12, upd_same] at hz2; cases hz2
    refine ⟨s1, z2, _, _, rfl, rfl, by rw [upd_ne n13, upd_ne n12, upd_same], upd_same, sz2000 ?_, fun s2 hs2 => ?_⟩
    · rw [cut_to, List.length_take, List.length_map, I.len, List.length_replicate]
      omega
    have S2 := fun o4 => S.trans ((same_upd hs1).trans ((same_upd hz1).trans ((same_upd hz2).trans (same_upd (o := o4) hs2))))
    walk_at "rd"
    refine ⟨by show 2 ≤ sizeLine; decide, fun t ht2 => ?_⟩
    have n3 : s2 ≠ t := fun z => by rw [← z, upd_same] at ht2; cases ht2
    refine k t s2 _ ((S2 _).free ht2) (S.free (((same_upd hs1).trans ((same_upd hz1).trans (same_upd hz2))).free hs2)) ((S2 _).trans (same_upd ht2)) upd_same ?_
    rw [upd_ne n3, upd_same, cut_to, ← List.map_take, ht, List.map_append, List.map_replicate]
  | cons fs r =>
    have hs := size_mid eb
    have hk := ksize_pre (al := al) (pre := pre)
    walk_at "rd"
    refine ifT (decide_eq_true (by omega)) ?_
    obtain ⟨x, ex, hx, hd⟩ := head_stays I (by omega) eb (Nat.le_refl _) (fun _ => ex2_head eb)
    refine ⟨fun σ2 H2 => ∃ (C : List Int) (c : Addr) (y6 : Option V), σ2 = [some (.ref a), some (.int (size bs)), some (.ref c), some (.int (size (pre ++ [fs]))), some (.int (ksize al 0 (pre ++ [fs]))), some (.int fs.length), y6] ∧ Same H H2 ∧ H c = none ∧ H2 c = some (.lst (C.map V.int))
      ∧ CInv C (size bs + sp.length) (size pre + 1 + fs.length) (HD al bs) (wd (rowM al bs sp)) (ex2 al bs (rowM al bs sp) (size pre + 1 + fs.length)) ∧ C.take (ksize al 0 (pre ++ [fs])) = outR al (qf al bs) 0 (pre ++ [fs]), ?_, ?_⟩
    · rintro σ2 H2 ⟨C, c, y6, rfl, S2, hc1, hc2, I2, ht2⟩
      refine ⟨r.length, by simp, pre ++ [fs], r, C, c, _, _, by rw [eb]; simp, rfl, rfl, S2, .of hc2, fun _ => ⟨hc1, hc2⟩, ?_, ht2⟩
      rw [size_snoc]
      exact I2
    · refine ⟨fun σ2 H2 => ∃ (C : List Int) (c : Addr) (y6 : Option V), σ2 = [some (.ref a), some (.int (size bs)), some (.ref c), some (.int (size pre)), some (.int (ksize al 0 (pre ++ [fs]))), some (.int fs.length), y6] ∧ Same H H2 ∧ H c = none ∧ H2 c = some (.lst (C.map V.int))
        ∧ CInv C (size bs + sp.length) (size pre + 1 + fs.length) (HD al bs) (wd (rowM al bs sp)) (ex2 al bs (rowM al bs sp) (size pre + 1 + fs.length)) ∧ C.take (ksize al 0 (pre ++ [fs])) = outR al (qf al bs) 0 (pre ++ [fs]), ?_, ?_⟩
      · walk_at "rd"
        refine ⟨c, _, _, _, rfl, rfl, hC, at_int ex, ?_⟩
        walk_at "rd"
        cases ha : al (size pre) with
        | true =>
          refine ifT (decide_eq_true (hx.mpr ha)) ?_
          have hhd : HD al bs (size pre) := ⟨by rw [eb]; exact places_mid, ha⟩
          obtain ⟨cs, nd, hm, ch⟩ := I.ch (size pre) (Nat.le_refl _) hhd
          have hw := wd_head (al := al) (sp := sp) eb
          rw [ha, if_pos rfl] at hw
          walk_at "rd"
          refine ⟨c, C, size pre, ksize al 0 pre, cs, _, rfl, hC, by rw [I.len]; omega, ch, nd, by rw [hw]; omega, fun p1 H1 C1 hp1 s1 L1 e1 => ?_⟩
          have I1 := p2_led L eb ha I hm L1
          have hh1 := L1.head
          rw [hw] at hh1
          have n1 : H p1 = none := S.free hp1
          have ht1 : C1.take (ksize al 0 pre) = outR al (qf al bs) 0 pre := by
            rw [← ht]
            refine take_eq fun i hi => L1.rest i (by omega) fun z => ?_
            have := (p2_chain ((hm i).mp z).2.2).2
            omega
          have hf : ∀ f, f < fs.length → C1[size pre + 1 + f]? = (fs[f]?).map (relink (qf al bs)) := fun f h => p2_cell L eb ha I1 h
          have lC1 : C1.length = size bs + sp.length := I1.len
          walk_at "rd"
          refine ⟨p1, _, _, _, rfl, rfl, .of e1, at_int hh1, ?_⟩
          walk_at "rd"
          rw [show (4 * (fs.length : Int) + 2) / 4 = (fs.length : Int) by omega]
          walk_at "rd"
          rw [if_neg Bool.false_ne_true, Int.add_zero]
          refine ⟨p1, _, _, ksize al 0 pre, rfl, rfl, e1, ix_nat (by omega), ?_⟩
          walk_at "rd"
          refine ⟨by omega, ?_⟩
          rw [show (1 + (fs.length : Int) - 1).toNat = fs.length by omega]
          refine for_range (lo := 1) (n := fs.length) (fun j σ2 H2 => ∃ (D : List Int) (y6 : Option V), σ2 = [some (.ref a), some (.int (size bs)), some (.ref p1), some (.int (size pre)), some (.int (ksize al 0 pre)), some (.int fs.length), y6] ∧ Same H H2 ∧ H2 p1 = some (.lst (D.map V.int))
            ∧ D.length = C1.length ∧ D.take (ksize al 0 pre + 1 + j) = outR al (qf al bs) 0 pre ++ (4 * (fs.length : Int)) :: (fs.take j).map (relink (qf al bs)) ∧ ∀ i, ksize al 0 pre + 1 + j ≤ i → D[i]? = C1[i]?)
            ⟨C1.set (ksize al 0 pre) (4 * (fs.length : Int)), y6, rfl, same_mut n1 (S.trans s1), lst_set, by simp, ?_, fun i hi => List.getElem?_set_ne (by omega)⟩ ?_ ?_
          · rw [Nat.add_zero, take_set (by omega), ht1]
            rfl
          · rintro j σ2 H2 hj ⟨D, y6, rfl, S2, e2, lD, htD, hD⟩
            have g1 := hf j hj
            rw [List.getElem?_eq_getElem hj] at g1
            have g2 := (hD (size pre + 1 + j) (by omega)).trans g1
            walk_at "rd"
            rw [show (size pre : Int) + (1 + (j : Int)) = ((size pre + 1 + j : Nat) : Int) by omega]
            refine ⟨p1, _, _, _, rfl, rfl, .of e2, at_int g2, ?_⟩
            walk_at "rd"
            rw [show (ksize al 0 pre : Int) + (1 + (j : Int)) = ((ksize al 0 pre + 1 + j : Nat) : Int) by omega]
            refine ⟨p1, _, _, ksize al 0 pre + 1 + j, rfl, rfl, e2, ix_nat (by omega), ?_⟩
            refine ⟨D.set (ksize al 0 pre + 1 + j) (relink (qf al bs) fs[j]), _, rfl, same_mut n1 S2, lst_set, by simp [lD], ?_, fun i hi => ?_⟩
            · rw [show ksize al 0 pre + 1 + (j + 1) = ksize al 0 pre + 1 + j + 1 by omega, take_set (by omega), htD, List.take_add_one, List.getElem?_eq_getElem hj, Option.toList_some, List.map_append]
              simp
            · rw [List.getElem?_set_ne (by omega)]
              exact hD i (by omega)
          · rintro σ2 H2 ⟨D, y6, rfl, S2, e2, lD, htD, hD⟩
            rw [List.take_length] at htD
            walk_at "rd"
            refine ⟨D, p1, y6, ?_, S2, n1, e2, p2_below I1 (by omega) lD fun i hi => hD i (by omega), ?_⟩
            · rw [ksize_snoc, ha, if_pos rfl]
              show [_, _, _, _, some (V.int ((ksize al 0 pre : Int) + 1 + (fs.length : Int))), _, _] = _
              rw [show ((ksize al 0 pre : Int) + 1 + (fs.length : Int)) = ((ksize al 0 pre + (1 + fs.length) : Nat) : Int) by omega]
            · rw [ksize_snoc, outR_snoc, ha, if_pos rfl, if_pos rfl, ← Nat.add_assoc]
              exact htD
        | false =>
          have npre : pre ≠ [] := fun z => by
            rw [z] at ha
            have : al 0 = false := ha
            rw [h0] at this
            cases this
          obtain ⟨hc1, hc2⟩ := hc npre
          refine ifF (decide_eq_false fun z => by have := hx.mp z; rw [ha] at this; cases this) ?_
          rw [hd ha] at ex
          walk_at "rd"
          refine ⟨c, _, _, _, rfl, rfl, hC, at_int ex, ?_⟩
          walk_at "rd"
          rw [show (4 * (fs.length : Int)) / 4 = (fs.length : Int) by omega]
          refine ⟨C, c, y6, ?_, S, hc1, hc2, p2_dead L eb ha I, ?_⟩
          · rw [ksize_snoc, ha, if_neg Bool.false_ne_true, Nat.add_zero]
            rfl
          · rw [ksize_snoc, outR_snoc, ha, if_neg Bool.false_ne_true, if_neg Bool.false_ne_true, Nat.add_zero, List.append_nil]
            exact ht
      · rintro σ2 H2 ⟨C2, c2, y6, rfl, S2, hc2, e2, I2, ht2⟩
        walk_at "rd"
        refine ⟨C2, c2, y6, ?_, S2, hc2, e2, I2, ht2⟩
        show [_, _, _, some (V.int ((size pre : Int) + 1 + (fs.length : Int))), _, _, _] = _
        rw [size_snoc, show ((size pre : Int) + 1 + (fs.length : Int)) = ((size pre + 1 + fs.length : Nat) : Int) by omega]
/-! #### pushed -/
def sp_pushed (K : PySem.W.Frag) : Sp := fun vs H Q _ => ∃ (a : Addr) (bs : List (List Int)) (sp : List Int), vs = [.ref a, .int (size bs)] ∧ SqL K H a ((mflat (fun _ => false) 0 bs ++ sp).map V.int) ∧ size bs + sp.length ≤ 2000 ∧ bs ≠ [] ∧ Valid bs ∧
    ∀ t p H', H t = none → H p = none → Same H H' → H' t = some (.tup [.ref p, .int (ksize (alive bs) 0 bs)]) → H' p = some (.lst ((outR (alive bs) (qf (alive bs) bs) 0 bs ++ List.replicate (size bs + sp.length - ksize (alive bs) 0 bs) 0).map V.int)) → Q (.ref t) H'
theorem ok_pushed (T : Txt K mg A) : FnOk P w K mg base CX0 4 A.f_pushed A.d_pushed ["row", "used"] (sp_pushed K) := by
  refine T.F_pushed.ok sc_pushed (fun vs H Q E h => by obtain ⟨a, bs, sp, rfl, hS, hl, hne, hv, k⟩ := h; rfl) (fun cdv A' outer s H vs Q E hr h => ⟨_, (pss_one (ps_ret (pe_call (ok_slid T) (hr.mono (by decide)) (by rfl) T.m_slid T.F_slid.kp T.b_slid .nil pass0 (pa_cons (pe_call (ok_hung_up T) (hr.mono (by decide)) (by rfl) T.m_hung_up T.F_hung_up.kp T.b_hung_up .nil pass0 (pa_cons (pe_call (ok_marked T) (hr.mono (by decide)) (by rfl) T.m_marked T.F_marked.kp T.b_marked .nil pass0 (pa_cons (pv 0) (pa_cons (pv 1) pa_nil))) (pa_cons (pv 1) pa_nil))) (pa_cons (pv 1) pa_nil))))), ?_⟩)
  obtain ⟨a, bs, sp, rfl, hS, hl, hne, hv, k⟩ := h
  have L := Live.of hv
  have h0 : alive bs 0 = true := alive_iff.mpr .door
  walk_at "rd"
  refine ⟨a, bs, sp, rfl, hS, by omega, hne, hv, fun p1 H1 hp1 s1 e1 => ?_⟩
  walk_at "rd"
  refine ⟨p1, alive bs, bs, sp, rfl, .of e1, hl, h0, hne, L, fun p2 H2 C hp2 s2 e2 I => ?_⟩
  walk_at "rd"
  have s12 := s1.trans s2
  refine ⟨p2, alive bs, bs, sp, C, rfl, .of e2, hl, h0, hne, L, I, fun t p H' ht hp s3 et ep => ?_⟩
  exact k t p H' (s12.free ht) (s12.free hp) (s12.trans s3) et ep
def thV : Th → List V
  | .num n => [.str "number", .int n]
  | .box k => [.str "box", .int (k : Int)]
/-- a list of things stands at l -/
def FieldsAt (H : Hp) (l : Addr) (fs : List Th) : Prop := ∃ ts : List Addr, H l = some (.lst (ts.map V.ref)) ∧ ts.length = fs.length ∧ ∀ (i : Nat) (t : Addr) (th : Th), ts[i]? = some t → fs[i]? = some th → H t = some (.tup (thV th))
/-- a list of such lists stands at b -/
def BoxesAt (H : Hp) (b : Addr) (bxs : List (List Th)) : Prop := ∃ ls : List Addr, H b = some (.lst (ls.map V.ref)) ∧ ls.length = bxs.length ∧ b ∉ ls ∧ ∀ (i : Nat) (l : Addr) (fs : List Th), ls[i]? = some l → bxs[i]? = some fs → FieldsAt H l fs
theorem FieldsAt.same {H H' : Hp} {l : Addr} {fs : List Th} (h : FieldsAt H l fs) (s : Same H H') : FieldsAt H' l fs := by
  obtain ⟨ts, e, hl, k⟩ := h
  exact ⟨ts, s _ _ e, hl, fun i t th a b => s _ _ (k i t th a b)⟩
theorem BoxesAt.same {H H' : Hp} {b : Addr} {bxs : List (List Th)} (h : BoxesAt H b bxs) (s : Same H H') : BoxesAt H' b bxs := by
  obtain ⟨ls, e, hl, nb, k⟩ := h
  exact ⟨ls, s _ _ e, hl, nb, fun i l fs a c => (k i l fs a c).same s⟩
/-- another list is written: the things stay -/
theorem FieldsAt.other {H : Hp} {l p : Addr} {fs : List Th} {xs ys : List V} (h : FieldsAt H l fs) (hp : H p = some (.lst xs)) (n : l ≠ p) : FieldsAt (upd H p (.lst ys)) l fs := by
  obtain ⟨ts, e, hl, k⟩ := h
  refine ⟨ts, by rw [upd_ne n]; exact e, hl, fun i t th a b => ?_⟩
  have q := k i t th a b
  rw [upd_ne (show t ≠ p from ne_of q hp (by intro z; cases z))]
  exact q
theorem snoc_get {α : Type} {l : List α} {x y : α} {i : Nat} (h : (l ++ [x])[i]? = some y) : l[i]? = some y ∨ (i = l.length ∧ y = x) := by
  by_cases hi : i < l.length
  · rw [List.getElem?_append_left hi] at h
    exact .inl h
  · rw [List.getElem?_append_right (by omega)] at h
    have h2 := (List.getElem?_eq_some_iff.mp h).1
    have e : i = l.length := by simp at h2; omega
    subst e
    simp at h
    exact .inr ⟨rfl, h.symm⟩
/-- one thing more -/
theorem FieldsAt.push {H : Hp} {l t : Addr} {fs : List Th} {th : Th} (h : FieldsAt H l fs) (ht : H t = some (.tup (thV th))) : ∃ ts : List Addr, H l = some (.lst (ts.map V.ref)) ∧ ts.length = fs.length ∧ FieldsAt (upd H l (.lst ((ts ++ [t]).map V.ref))) l (fs ++ [th]) := by
  obtain ⟨ts, e, hl, k⟩ := h
  refine ⟨ts, e, hl, ts ++ [t], upd_same, by simp [hl], fun i u th' a b => ?_⟩
  have ht' : H u = some (.tup (thV th')) := by
    rcases snoc_get a with a | ⟨ia, rfl⟩
    · rcases snoc_get b with b | ⟨ib, rfl⟩
      · exact k i u th' a b
      · have := (List.getElem?_eq_some_iff.mp a).1
        omega
    · rcases snoc_get b with b | ⟨ib, rfl⟩
      · have := (List.getElem?_eq_some_iff.mp b).1
        omega
      · exact ht
  rw [upd_ne (show u ≠ l from ne_of ht' e (by intro z; cases z))]
  exact ht'
/-- one box more -/
theorem BoxesAt.push {H : Hp} {b l : Addr} {bxs : List (List Th)} {fs : List Th} (h : BoxesAt H b bxs) (hf : FieldsAt H l fs) (n : l ≠ b) : ∃ ls : List Addr, H b = some (.lst (ls.map V.ref)) ∧ ls.length = bxs.length ∧ BoxesAt (upd H b (.lst ((ls ++ [l]).map V.ref))) b (bxs ++ [fs]) := by
  obtain ⟨ls, e, hl, nb, k⟩ := h
  refine ⟨ls, e, hl, ls ++ [l], upd_same, by simp [hl], fun z => ?_, fun i u fs' a c => ?_⟩
  · rcases List.mem_append.mp z with z | z
    · exact nb z
    · exact n (show b = l by simpa using z).symm
  have nu : u ≠ b := fun z => by
    rcases snoc_get a with a | ⟨_, a⟩
    · exact nb (z ▸ List.mem_of_getElem? a)
    · exact n (a.symm.trans z)
  refine FieldsAt.other ?_ e nu
  rcases snoc_get a with a | ⟨ia, rfl⟩
  · rcases snoc_get c with c | ⟨ic, rfl⟩
    · exact k i u fs' a c
    · have := (List.getElem?_eq_some_iff.mp a).1
      omega
  · rcases snoc_get c with c | ⟨ic, rfl⟩
    · have := (List.getElem?_eq_some_iff.mp c).1
      omega
    · exact hf
theorem at_ref {ts : List Addr} {i : Nat} {t : Addr} (h : ts[i]? = some t) : atI (ts.map V.ref) (i : Int) = some (.ref t) := atI_nat (by rw [List.getElem?_map, h]; rfl)
theorem sum_nn : ∀ {zs : List Int}, (∀ z ∈ zs, 0 ≤ z) → 0 ≤ zs.sum
  | [], _ => Int.le_refl _
  | x :: r, h => by
    rw [List.sum_cons]
    have := h x List.mem_cons_self
    have := sum_nn fun z hz => h z (List.mem_cons_of_mem x hz)
    omega
theorem FieldsAt.some {H : Hp} {l : Addr} {fs : List Th} (h : FieldsAt H l fs) : ∃ o, H l = some o := by
  obtain ⟨ts, e, _⟩ := h
  exact ⟨_, e⟩
theorem fields_new {H : Hp} {l t : Addr} {th : Th} (ht : H t = some (.tup (thV th))) (hl : H l = none) : FieldsAt (upd H l (.lst [.ref t])) l [th] := by
  refine ⟨[t], upd_same, rfl, fun i u th' a b => ?_⟩
  match i, a, b with
  | 0, a, b =>
    have a : t = u := Option.some.inj a
    have b : th = th' := Option.some.inj b
    subst a b
    rw [upd_ne (ne_of_none ht hl)]
    exact ht
  | i + 1, a, _ => exact absurd a (by simp)
theorem boxes_cons {H : Hp} {l1 D q : Addr} {f0 : List Th} {bxs : List (List Th)} {ls : List Addr} (h1 : FieldsAt H l1 f0) (hD : BoxesAt H D bxs) (e : H D = some (.lst (ls.map V.ref))) (hq : H q = none) : BoxesAt (upd H q (.lst ([V.ref l1] ++ ls.map V.ref))) q (f0 :: bxs) := by
  obtain ⟨ls', e', hl, nb, k⟩ := hD
  have el : ls' = ls := by
    rw [e] at e'
    have := (HO.lst.inj (Option.some.inj e'))
    exact (List.map_inj_right (fun _ _ z => V.ref.inj z)).mp this.symm
  subst el
  have s := same_upd (o := .lst ([V.ref l1] ++ ls'.map V.ref)) hq
  refine ⟨l1 :: ls', upd_same, by simp [hl], fun z => ?_, fun i u fs a c => ?_⟩
  · rcases List.mem_cons.mp z with z | z
    · obtain ⟨o, eo⟩ := h1.some
      rw [← z, hq] at eo
      cases eo
    · obtain ⟨i, hi, ei⟩ := List.mem_iff_getElem.mp z
      have hi2 : i < bxs.length := by omega
      obtain ⟨o, eo⟩ := (k i q bxs[i] (by rw [List.getElem?_eq_getElem hi, ei]) (List.getElem?_eq_getElem hi2)).some
      rw [hq] at eo
      cases eo
  · match i, a, c with
    | 0, a, c =>
      have a : l1 = u := Option.some.inj a
      have c : f0 = fs := Option.some.inj c
      subst a c
      exact h1.same s
    | i + 1, a, c => exact (k i u fs a c).same s
theorem boxes_nil {H : Hp} {b : Addr} (h : H b = some (.lst [])) : BoxesAt H b [] := ⟨[], h, rfl, fun z => (nomatch z), fun i l fs a _ => absurd a (by simp)⟩
theorem fields_nil {H : Hp} {b : Addr} (h : H b = some (.lst [])) : FieldsAt H b [] := ⟨[], h, rfl, fun i l fs a _ => absurd a (by simp)⟩
theorem sizeT_ones : ∀ (g : Nat → Th) (n : Nat), sizeT ((List.range n).map fun j => [g j]) = 2 * n
  | g, 0 => rfl
  | g, n + 1 => by
    rw [List.range_succ, List.map_append, sizeT_append, sizeT_ones g n]
    show 2 * n + (1 + 1 + 0) = 2 * (n + 1)
    omega
theorem ref_get {ls : List Addr} {i : Nat} {x : V} (h : (ls.map V.ref)[i]? = some x) : ∃ l, ls[i]? = some l ∧ x = .ref l := by
  rw [List.getElem?_map] at h
  cases e : ls[i]? with
  | none => rw [e] at h; cases h
  | some l => rw [e] at h; exact ⟨l, rfl, (Option.some.inj h).symm⟩
theorem at_tup0 {th : Th} : atI (thV th) 0 = some (.str (match th with | .num _ => "number" | .box _ => "box")) := by cases th <;> rfl
theorem at_num {n : Int} : atI (thV (.num n)) 1 = some (.int n) := rfl
theorem at_box {k : Nat} : atI (thV (.box k)) 1 = some (.int (k : Int)) := rfl
theorem str_bn : ¬ (("box" : Str) = "number") := by decide +kernel
theorem str_nb : ¬ (("number" : Str) = "box") := by decide +kernel
theorem eq_num {th : Th} : decide (V.str (match th with | .num _ => "number" | .box _ => "box") = V.str ("number" : Str)) = (match th with | .num _ => true | .box _ => false) := by
  cases th with
  | num n => exact decide_eq_true rfl
  | box k => exact decide_eq_false fun z => str_bn (V.str.inj z)
theorem eq_box {th : Th} : decide (V.str (match th with | .num _ => "number" | .box _ => "box") = V.str ("box" : Str)) = (match th with | .num _ => false | .box _ => true) := by
  cases th with
  | num n => exact decide_eq_false fun z => str_nb (V.str.inj z)
  | box k => exact decide_eq_true rfl
theorem pe_globI {X : Cx} {x : Str} {i : Int} {pos : Pos} (hg : Gl X x) (hm : ∃ t, X.mg x = some (.int i t)) (hd : (x == ("__debug__" : Str)) = false := by decide) : PE X (.Name x pos) (tC (.int i)) := by
  obtain ⟨t, h⟩ := hm
  exact pe_glob hg h ⟨t, rfl⟩ hd
theorem fne : ¬ (("row" : Str) = "filled") := by decide +kernel
/-- a room's attributes -/
def rmf (r : Addr) (f : Nat) : List (Str × V) := putF "filled" (.int (f : Int)) (putF "row" (.ref r) [])
theorem rmf_eq (r : Addr) (f : Nat) : rmf r f = ([("row", V.ref r), ("filled", V.int (f : Int))] : List (Str × V)) := by
  show (if ("row" : Str) = "filled" then [(("row" : Str), V.int (f : Int))] else (("row" : Str), V.ref r) :: putF "filled" (V.int (f : Int)) []) = ([("row", V.ref r), ("filled", V.int (f : Int))] : List (Str × V))
  rw [if_neg fne]
  all_goals rfl
theorem rmf_row (r : Addr) (f : Nat) : (rmf r f).lookup ("row" : Str) = some (.ref r) := by
  unfold rmf
  rw [lookup_putF, if_neg fne, lookup_putF, if_pos rfl]
theorem rmf_filled (r : Addr) (f : Nat) : (rmf r f).lookup ("filled" : Str) = some (.int (f : Int)) := by
  unfold rmf
  rw [lookup_putF, if_pos rfl]
theorem rmf_no (r : Addr) (f : Nat) {m : Str} (h1 : ¬ m = "filled") (h2 : ¬ m = "row") : (rmf r f).lookup m = none := by
  unfold rmf
  rw [lookup_putF, if_neg h1, lookup_putF, if_neg h2]
  all_goals rfl
theorem rmf_len (r : Addr) (f : Nat) : (rmf r f).length < 1000 := by
  rw [rmf_eq]
  show 2 < 1000
  decide
theorem put_row (r x : Addr) (f : Nat) : putF "row" (.ref x) (rmf r f) = rmf x f := by
  rw [rmf_eq, rmf_eq]
  show (if ("row" : Str) = "row" then [(("row" : Str), V.ref x), ("filled", V.int (f : Int))] else _) = ([("row", V.ref x), ("filled", V.int (f : Int))] : List (Str × V))
  rw [if_pos rfl]
theorem put_filled (r : Addr) (f g : Nat) : putF "filled" (.int (g : Int)) (rmf r f) = rmf r g := by
  rw [rmf_eq, rmf_eq]
  show (if ("row" : Str) = "filled" then _ else (("row" : Str), V.ref r) :: (if ("filled" : Str) = "filled" then [(("filled" : Str), V.int (g : Int))] else _)) = ([("row", V.ref r), ("filled", V.int (g : Int))] : List (Str × V))
  rw [if_neg fne, if_pos rfl]
/-- a room stands at p, its row at r -/
structure RoomAt (C : Addr) (H : Hp) (p r : Addr) (bxs : List (List Th)) (N : Nat) : Prop where
  ob : ∃ dx, H p = some (.ins C dx (rmf r (sizeT bxs)))
  row : H r = some (.lst ((enc bxs N).map V.int))
theorem RoomAt.same {C : Addr} {H H' : Hp} {p r : Addr} {bxs : List (List Th)} {N : Nat} (h : RoomAt C H p r bxs N) (s : Same H H') : RoomAt C H' p r bxs N := by
  obtain ⟨⟨dx, e⟩, w⟩ := h
  exact ⟨⟨dx, s _ _ e⟩, s _ _ w⟩
/-- all but the room is as it was -/
def But (p r : Addr) (H H' : Hp) : Prop := ∀ b o, H b = some o → b ≠ p → b ≠ r → H' b = some o
theorem But.of {p r : Addr} {H H' : Hp} (s : Same H H') : But p r H H' := fun b o e _ _ => s b o e
theorem But.trans {p r : Addr} {H H1 H2 : Hp} (a : But p r H H1) (b : But p r H1 H2) : But p r H H2 := fun c o e h1 h2 => b c o (a c o e h1 h2) h1 h2
theorem But.seqL {K : PySem.W.Frag} {p r : Addr} {H H' : Hp} {a : Addr} {xs : List V} (s : But p r H H') (h : SqL K H a xs) (n1 : a ≠ p) (n2 : a ≠ r) : SqL K H' a xs := by
  rcases h with (h | ⟨o, h⟩) | h
  · exact .inl (.inl (s _ _ h n1 n2))
  · exact .inl (.inr ⟨o, s _ _ h n1 n2⟩)
  · exact .inr h
/-- a number in a thing is no greater than may be handed in -/
def OkTh : Th → Prop
  | .num n => n.natAbs < 10 ^ 60
  | .box k => k < 10 ^ 60
/-! #### is_whole -/
def sp_is_whole (K : PySem.W.Frag) : Sp := fun vs H Q _ => ∃ n : Int, vs = [.int n] ∧ Q (.bl (decide (n.natAbs < 10 ^ 60))) H
theorem ok_is_whole (T : Txt K mg A) : FnOk P w K mg base CX0 1 A.f_is_whole A.d_is_whole ["value"] (sp_is_whole K) := by
  refine T.F_is_whole.ok sc_is_whole (fun vs H Q E h => by obtain ⟨n, rfl, h⟩ := h; rfl) (fun cdv A' outer s H vs Q E hr h => ⟨_, (pss_one (ps_ret (pe_and (pe_callB (call_isiK (K := K) rfl) (by rfl) T.z_isinstance (by decide +kernel) (pa_cons (pv 0) (pa_cons (pe_bltn (v := .ty "int") (by rfl) T.z_int (by decide +kernel) rfl) pa_nil))) (pe_and (pe_not (pe_callB (call_isiK (K := K) rfl) (by rfl) T.z_isinstance (by decide +kernel) (pa_cons (pv 0) (pa_cons (pe_bltn (v := .ty "bool") (by rfl) T.z_bool (by decide +kernel) rfl) pa_nil)))) (pe_one (pe_cmpR op_ltI (pe_callB call_abs (by rfl) T.z_abs (by decide +kernel) (pa_cons (pv 0) pa_nil)) (pe_op op_powI pe_int pe_int) (nomark _))))))), ?_⟩)
  obtain ⟨n, rfl, h⟩ := h
  refine ⟨_, rfl, .int n, _, _, _, true, rfl, .ty "int", .base (.int n), kit_ty (by decide +kernel), ?_⟩
  walk_at "rd"
  refine ⟨.int n, _, _, _, false, rfl, .ty "bool", .base (.int n), kit_ty (by decide +kernel), ?_⟩
  walk_at "rd"
  have e : decide ((if n < 0 then -n else n) < (10 : Int) ^ (60 : Int).toNat) = decide (n.natAbs < 10 ^ 60) := by
    have e1 : ((10 : Int) ^ (60 : Int).toNat) = ((10 ^ 60 : Nat) : Int) := by decide +kernel
    rw [e1]
    by_cases c : n.natAbs < 10 ^ 60
    · rw [decide_eq_true c]
      exact decide_eq_true (by split <;> omega)
    · rw [decide_eq_false c]
      exact decide_eq_false (by split <;> omega)
  rw [e]
  exact h
theorem kind_n : (!inV (V.str "number") [V.str "number", V.str "box"]) = false := by decide +kernel
theorem kind_b : (!inV (V.str "box") [V.str "number", V.str "box"]) = false := by decide +kernel
theorem kind_in (th : Th) : (!inV (V.str (match th with | .num _ => "number" | .box _ => "box")) [V.str "number", V.str "box"]) = false := by
  cases th with
  | num _ => exact kind_n
  | box _ => exact kind_b
/-! #### need_thing -/
def sp_need_thing (K : PySem.W.Frag) : Sp := fun vs H Q _ => ∃ (t : Addr) (th : Th), vs = [.ref t] ∧ H t = some (.tup (thV th)) ∧ OkTh th ∧ ∀ H', Same H H' → Q .non H'
theorem ok_need_thing (T : Txt K mg A) : FnOk P w K mg base CX0 2 A.f_need_thing A.d_need_thing ["thing"] (sp_need_thing K) := by
  refine T.F_need_thing.ok sc_need_thing (fun vs H Q E h => by obtain ⟨t, th, rfl, ht, ok, k⟩ := h; rfl) (fun cdv A' outer s H vs Q E hr h => ⟨_, (pss_cons (ps_if (PW.pt (pw_or (pt_not (pt_val (pe_callB (call_isiK (K := K) rfl) (by rfl) T.z_isinstance (by decide +kernel) (pa_cons (pv 0) (pa_cons (pe_bltn (v := .ty "tuple") (by rfl) T.z_tuple (by decide +kernel) rfl) pa_nil))))) (pw_or (pt_cmpR op_ne (pe_callB (call_lenK (K := K) rfl) (by rfl) T.z_len (by decide +kernel) (pa_cons (pv 0) pa_nil)) pe_int (nomark _)) (pw_or1 (pt_not (pt_val (pe_callB (call_isiK (K := K) rfl) (by rfl) T.z_isinstance (by decide +kernel) (pa_cons (pe_ix (ix_tupK (K := K) rfl) (pv 0) pe_int (fun _ _ => rfl)) (pa_cons (pe_bltn (v := .ty "str") (by rfl) T.z_str (by decide +kernel) rfl) pa_nil)))))))))
  (pss_one ps_never)
  pss_nil)
  (pss_one (ps_if (PW.pt (pw_or (pt_cmpR (op_notInK (K := K) rfl) (pe_ix (ix_tupK (K := K) rfl) (pv 0) pe_int (fun _ _ => rfl)) (pe_tup (pa_cons pe_str (pa_cons pe_str pa_nil))) (by rfl)) (pw_or1 (pt_not (pt_val (pe_call (ok_is_whole T) (hr.mono (by decide)) (by rfl) T.m_is_whole T.F_is_whole.kp T.b_is_whole .nil pass0 (pa_cons (pe_ix (ix_tupK (K := K) rfl) (pv 0) pe_int (fun _ _ => rfl)) pa_nil)))))))
  (pss_one ps_never)
  pss_nil))), ?_⟩)
  obtain ⟨t, th, rfl, ht, ok, k⟩ := h
  have l2 : (thV th).length = 2 := by cases th <;> rfl
  walk_at "rd"
  refine ⟨.ref t, _, _, _, true, rfl, .ty "tuple", .base (.tup ht), kit_ty (by decide +kernel), ?_⟩
  walk_at "rd"
  refine ⟨t, _, rfl, .inr (.of ht), ?_⟩
  rw [l2]
  walk_at "rd"
  refine ⟨t, _, 0, _, rfl, rfl, .of ht, at_tup0, ?_⟩
  walk_at "rd"
  refine ⟨.str _, _, _, _, true, rfl, .ty "str", .base (.str _), kit_ty (by decide +kernel), ?_⟩
  walk_at "rd"
  refine ⟨t, _, 0, _, rfl, rfl, .of ht, at_tup0, ?_⟩
  walk_at "rd"
  refine ⟨by show 2 ≤ sizeLine; decide, fun q hq => ?_⟩
  refine ⟨q, _, rfl, .inr (.of upd_same), rfl, rfl, ?_⟩
  walk_at "rd"
  refine ifF (kind_in th) ?_
  have hs := same_upd (o := .tup [V.str "number", V.str "box"]) hq
  cases th with
  | num n =>
    walk_at "rd"
    refine ⟨t, _, 1, _, rfl, rfl, .of (hs _ _ ht), at_num, ?_⟩
    walk_at "rd"
    refine ifF (by rw [decide_eq_true (show n.natAbs < 10 ^ 60 from ok)]; rfl) ?_
    exact k _ hs
  | box m =>
    walk_at "rd"
    refine ⟨t, _, 1, _, rfl, rfl, .of (hs _ _ ht), at_box, ?_⟩
    walk_at "rd"
    refine ifF (by rw [decide_eq_true (show ((m : Int)).natAbs < 10 ^ 60 from ok)]; rfl) ?_
    exact k _ hs
/-! #### thing_of -/
def sp_thing_of (K : PySem.W.Frag) : Sp := fun vs H Q _ => ∃ th : Th, vs = [.int (wordT (fun k => (k : Int)) th)] ∧ ∀ t H', H t = none → Same H H' → H' t = some (.tup (thV th)) → Q (.ref t) H'
theorem ok_thing_of (T : Txt K mg A) : FnOk P w K mg base CX0 2 A.f_thing_of A.d_thing_of ["word"] (sp_thing_of K) := by
  refine T.F_thing_of.ok sc_thing_of (fun vs H Q E h => by obtain ⟨th, rfl, k⟩ := h; rfl) (fun cdv A' outer s H vs Q E hr h => ⟨_, (pss_cons (ps_if (pt_val (pe_call (ok_is_link T) (hr.mono (by decide)) (by rfl) T.m_is_link T.F_is_link.kp T.b_is_link .nil pass0 (pa_cons (pv 0) pa_nil)))
  (pss_one (ps_ret (pe_tup (pa_cons pe_str (pa_cons (pe_call (ok_told_by T) (hr.mono (by decide)) (by rfl) T.m_told_by T.F_told_by.kp T.b_told_by .nil pass0 (pa_cons (pv 0) pa_nil)) pa_nil)))))
  pss_nil)
  (pss_one (ps_ret (pe_tup (pa_cons pe_str (pa_cons (pe_call (ok_told_by T) (hr.mono (by decide)) (by rfl) T.m_told_by T.F_told_by.kp T.b_told_by .nil pass0 (pa_cons (pv 0) pa_nil)) pa_nil)))))), ?_⟩)
  obtain ⟨th, rfl, k⟩ := h
  cases th with
  | num n =>
    walk_at "rd"
    refine ifF (decide_eq_false (by show ¬ (2 * n) % 2 = 1; omega)) ?_
    walk_at "rd"
    refine ⟨by show 2 ≤ sizeLine; decide, fun t ht => ?_⟩
    refine k t _ ht (same_upd ht) ?_
    rw [upd_same, show wordT (fun k => (k : Int)) (.num n) / 2 = n from by show (2 * n) / 2 = n; omega]
    rfl
  | box m =>
    walk_at "rd"
    refine ifT (decide_eq_true (by show (2 * (m : Int) + 1) % 2 = 1; omega)) ?_
    walk_at "rd"
    refine ⟨by show 2 ≤ sizeLine; decide, fun t ht => ?_⟩
    refine k t _ ht (same_upd ht) ?_
    rw [upd_same, show wordT (fun k => (k : Int)) (.box m) / 2 = (m : Int) from by show (2 * (m : Int) + 1) / 2 = (m : Int); omega]
    rfl
theorem enc_new {d n : Nat} (h : d < n) : enc [List.replicate d (.num 0)] n = (4 * (d : Int)) :: List.replicate d 0 ++ List.replicate (n - d - 1) 0 := by
  unfold enc
  show (4 * ((List.replicate d (Th.num 0)).length : Int)) :: ((List.replicate d (Th.num 0)).map _ ++ []) ++ List.replicate (n - (1 + (List.replicate d (Th.num 0)).length + 0)) 0 = _
  rw [List.length_replicate, List.append_nil, List.map_replicate, show n - (1 + d + 0) = n - d - 1 by omega]
  rfl
theorem row_new (d m : Nat) : [V.int (4 * (d : Int) + if false then 2 else 0)] ++ List.replicate d (V.int (2 * 0)) ++ List.replicate m (V.int 0) = ((4 * (d : Int)) :: List.replicate d 0 ++ List.replicate m 0).map V.int := by
  rw [if_neg Bool.false_ne_true, Int.add_zero, List.map_append, List.map_cons, List.map_replicate, List.map_replicate]
  rfl
/-! #### Room.__init__ -/
def sp_Rinit (K : PySem.W.Frag) (A : Adr) : Sp := fun vs H Q _ => ∃ (p dx : Addr) (n d : Nat), vs = [.ref p, .int n, .int d] ∧ H p = some (.ins A.c_Room dx []) ∧ d ≤ 20 ∧ d < n ∧ n ≤ 400 ∧
    ∀ r H', H r = none → RoomAt A.c_Room H' p r [List.replicate d (.num 0)] n → (∀ b o, H b = some o → b ≠ p → H' b = some o) → Q .non H'
theorem ok_Rinit (T : Txt K mg A) : FnOk P w K mg base CX0 2 A.f_Rinit A.d_Rinit ["self", "size", "doors"] (sp_Rinit K A) := by
  refine T.F_Rinit.ok sc_Rinit (fun vs H Q E h => by obtain ⟨p, dx, n, d, rfl, hp, h20, hdn, h400, k⟩ := h; rfl) (fun cdv A' outer s H vs Q E hr h => ⟨_, (pss_cons (ps_if (PW.pt (pw_or (pt_not (pt_val (pe_call (ok_is_whole T) (hr.mono (by decide)) (by rfl) T.m_is_whole T.F_is_whole.kp T.b_is_whole .nil pass0 (pa_cons (pv 1) pa_nil)))) (pw_or (pt_not (pt_val (pe_call (ok_is_whole T) (hr.mono (by decide)) (by rfl) T.m_is_whole T.F_is_whole.kp T.b_is_whole .nil pass0 (pa_cons (pv 2) pa_nil)))) (pw_or1 (pt_not (pt_chain op_leI op_leI pe_int (pv 1) (pe_globI rfl T.m_MOST_CELLS)))))))
  (pss_one ps_never)
  pss_nil)
  (pss_cons (ps_if (PW.pt (pw_or (pt_not (pt_chain op_leI op_leI pe_int (pv 2) (pe_globI rfl T.m_MOST_DOORS))) (pw_or1 (pt_cmpR op_geI (pv 2) (pv 1) (nomark _)))))
  (pss_one ps_never)
  pss_nil)
  (pss_cons (ps_fld (pv 0) (pe_op op_cat (pe_op op_cat (pe_lst (pa_cons (pe_call (ok_head_word T) (hr.mono (by decide)) (by rfl) T.m_head_word T.F_head_word.kp T.b_head_word .nil pass0 (pa_cons (pv 2) (pa_cons pe_bl pa_nil))) pa_nil)) (pe_op op_rep (pe_lst (pa_cons (pe_call (ok_number_word T) (hr.mono (by decide)) (by rfl) T.m_number_word T.F_number_word.kp T.b_number_word .nil pass0 (pa_cons pe_int pa_nil)) pa_nil)) (pv 2))) (pe_op op_rep (pe_lst (pa_cons pe_int pa_nil)) (pe_op op_subI (pe_op op_subI (pv 1) (pv 2)) pe_int))) rfl)
  (pss_one (ps_fld (pv 0) (pe_op op_addI pe_int (pv 2)) rfl))))), ?_⟩)
  obtain ⟨p, dx, n, d, rfl, hp, h20, hdn, h400, k⟩ := h
  walk_at "rd"
  refine ifF (by rw [decide_eq_true (show ((n : Int)).natAbs < 10 ^ 60 by omega)]; rfl) ?_
  walk_at "rd"
  refine ifF (by rw [decide_eq_true (show ((d : Int)).natAbs < 10 ^ 60 by omega)]; rfl) ?_
  walk_at "rd"
  refine ifT (decide_eq_true (by omega)) ?_
  walk_at "rd"
  refine ifF (by rw [decide_eq_true (show (n : Int) ≤ 400 by omega)]; rfl) ?_
  walk_at "rd"
  refine ifF (by rw [decide_eq_true (show (d : Int) ≤ 20 by omega)]; rfl) ?_
  walk_at "rd"
  refine ifF (decide_eq_false (by omega)) ?_
  -- the row
  walk_at "rd"
  refine ⟨by show 1 ≤ sizeLine; decide, fun a1 h1 => ?_⟩
  walk_at "rd"
  refine ⟨by show 1 ≤ sizeLine; decide, fun a2 h2 => ?_⟩
  walk_at "rd"
  refine ⟨a2, (d : Int), _, rfl, rfl, upd_same, by omega, by omega, sz2000 (by rw [Int.toNat_natCast]; show 1 * d ≤ _; omega), fun a3 h3 => ?_⟩
  rw [Int.toNat_natCast, List.flatten_replicate_singleton]
  have n12 : a1 ≠ a2 := fun z => by rw [← z, upd_same] at h2; cases h2
  have n13 : a1 ≠ a3 := fun z => by rw [← z, upd_ne n12, upd_same] at h3; cases h3
  refine ⟨a1, a3, _, _, rfl, rfl, by rw [upd_ne n13, upd_ne n12, upd_same], upd_same, sz2000 (by rw [List.length_replicate]; show 1 + d ≤ _; omega), fun a4 h4 => ?_⟩
  walk_at "rd"
  refine ⟨by show 1 ≤ sizeLine; decide, fun a5 h5 => ?_⟩
  walk_at "rd"
  rw [show (n : Int) - (d : Int) - 1 = ((n - d - 1 : Nat) : Int) by omega]
  refine ⟨a5, _, _, rfl, rfl, upd_same, by omega, by omega, sz2000 (by rw [Int.toNat_natCast]; show 1 * _ ≤ _; omega), fun a6 h6 => ?_⟩
  rw [Int.toNat_natCast, List.flatten_replicate_singleton]
  have n45 : a4 ≠ a5 := fun z => by rw [← z, upd_same] at h5; cases h5
  have n46 : a4 ≠ a6 := fun z => by rw [← z, upd_ne n45, upd_same] at h6; cases h6
  refine ⟨a4, a6, _, _, rfl, rfl, by rw [upd_ne n46, upd_ne n45, upd_same], upd_same, sz2000 (by rw [List.length_append, List.length_replicate, List.length_replicate]; show 1 + d + _ ≤ _; omega), fun a7 h7 => ?_⟩
  have S6 := (same_upd (o := .lst [V.int (4 * (d : Int) + if false then 2 else 0)]) h1).trans ((same_upd (o := .lst [V.int (2 * 0)]) h2).trans ((same_upd (o := .lst (List.replicate d (V.int (2 * 0)))) h3).trans ((same_upd (o := .lst ([V.int (4 * (d : Int) + if false then 2 else 0)] ++ List.replicate d (V.int (2 * 0)))) h4).trans ((same_upd (o := .lst [V.int 0]) h5).trans (same_upd (o := .lst (List.replicate (n - d - 1) (V.int 0))) h6)))))
  have h70 : H a7 = none := S6.free h7
  have np7 : p ≠ a7 := ne_of_none hp h70
  have S7 := fun o => S6.trans (same_upd (o := o) h7)
  -- self.row, self.filled
  walk_at "rd"
  refine ⟨p, A.c_Room, dx, _, rfl, S7 _ _ _ hp, T.clR, T.na_row, by show 0 < 1000; decide, ?_⟩
  walk_at "rd"
  refine ⟨p, A.c_Room, dx, _, rfl, upd_same, T.clR, T.na_filled, by show 1 < 1000; decide, ?_⟩
  refine k a7 _ h70 ⟨⟨dx, ?_⟩, ?_⟩ fun b o e hb => by rw [upd_ne hb, upd_ne hb]; exact S7 _ _ _ e
  · rw [upd_same]
    have es : sizeT [List.replicate d (Th.num 0)] = 1 + d := by
      show 1 + (List.replicate d (Th.num 0)).length + 0 = _
      rw [List.length_replicate, Nat.add_zero]
    rw [es, show (1 : Int) + (d : Int) = ((1 + d : Nat) : Int) by omega]
    rfl
  · rw [upd_ne np7.symm, upd_ne np7.symm, upd_same, enc_new hdn]
    exact congrArg (fun z => some (HO.lst z)) (row_new d (n - d - 1))
/-! #### Room.need_box -/
def sp_Rneed_box (K : PySem.W.Frag) (A : Adr) : Sp := fun vs H Q _ => ∃ (p r : Addr) (bxs : List (List Th)) (N k : Nat), vs = [.ref p, .int (plT bxs k)] ∧ RoomAt A.c_Room H p r bxs N ∧ RoomOk bxs N ∧ k < bxs.length ∧ ∀ H', Same H H' → Q .non H'
theorem ok_Rneed_box (T : Txt K mg A) : FnOk P w K mg base CX0 3 A.f_Rneed_box A.d_Rneed_box ["self", "place"] (sp_Rneed_box K A) := by
  refine T.F_Rneed_box.ok sc_Rneed_box (fun vs H Q E h => by obtain ⟨p, r, bxs, N, i, rfl, R, ok, hi, k⟩ := h; rfl) (fun cdv A' outer s H vs Q E hr h => ⟨_, (pss_one (ps_if (PW.pt (pw_or (pt_not (pt_val (pe_call (ok_is_whole T) (hr.mono (by decide)) (by rfl) T.m_is_whole T.F_is_whole.kp T.b_is_whole .nil pass0 (pa_cons (pv 1) pa_nil)))) (pw_or1 (pt_cmpR (op_notInK (K := K) rfl) (pv 1) (pe_call (ok_heads T) (hr.mono (by decide)) (by rfl) T.m_heads T.F_heads.kp T.b_heads .nil pass0 (pa_cons (pe_fldK (K := K) rfl (pv 0) rfl) (pa_cons (pe_fldK (K := K) rfl (pv 0) rfl) pa_nil))) (by rfl)))))
  (pss_one ps_never)
  pss_nil)), ?_⟩)
  obtain ⟨p, r, bxs, N, i, rfl, R, ok, hi, k⟩ := h
  obtain ⟨⟨dx, eo⟩, er⟩ := id R
  have hpl : plT bxs i ≤ 400 := by
    have := sizeT_field (List.getElem?_eq_getElem hi)
    have := ok.sz
    have := ok.le
    omega
  walk_at "rd"
  refine ifF (by rw [decide_eq_true (show ((plT bxs i : Int)).natAbs < 10 ^ 60 by omega)]; rfl) ?_
  walk_at "rd"
  refine ⟨p, A.c_Room, dx, _, _, rfl, eo, T.clR, T.na_row, rmf_row _ _, ?_⟩
  walk_at "rd"
  refine ⟨p, A.c_Room, dx, _, _, rfl, eo, T.clR, T.na_filled, rmf_filled _ _, ?_⟩
  have esz : sizeT bxs = size (bsOf (pg bxs) bxs) := (size_bsOf _ _).symm
  rw [enc_eq] at er
  refine ⟨r, fun _ => false, bsOf (pg bxs) bxs, _, by rw [esz]; rfl, .of er, by rw [← esz]; have := ok.sz; have := ok.le; omega, fun q H1 hq s1 eq => ?_⟩
  rw [places_bsOf] at eq
  walk_at "rd"
  refine ⟨q, _, rfl, .inl (.of eq), rfl, flat_nats _, ?_⟩
  walk_at "rd"
  refine ifF ?_ ?_
  · show (!inV (.int (plT bxs i : Int)) ((placesT 0 bxs).map natV)) = false
    rw [in_nats, decide_eq_true (List.mem_of_getElem? (placesT_get0 hi))]
    rfl
  · exact k _ s1
/-! #### Room.word_of -/
def sp_Rword_of (K : PySem.W.Frag) (A : Adr) : Sp := fun vs H Q _ => ∃ (p r t : Addr) (bxs : List (List Th)) (N : Nat) (th : Th), vs = [.ref p, .ref t] ∧ RoomAt A.c_Room H p r bxs N ∧ RoomOk bxs N ∧ H t = some (.tup (thV (toPl bxs th))) ∧ (∀ k, th = .box k → k < bxs.length) ∧ ∀ H', Same H H' → Q (.int (wordT (pg bxs) th)) H'
theorem ok_Rword_of (T : Txt K mg A) : FnOk P w K mg base CX0 4 A.f_Rword_of A.d_Rword_of ["self", "thing"] (sp_Rword_of K A) := by
  refine T.F_Rword_of.ok sc_Rword_of (fun vs H Q E h => by obtain ⟨p, r, t, bxs, N, th, rfl, R, ok, ht, hv, k⟩ := h; rfl) (fun cdv A' outer s H vs Q E hr h => ⟨_, (pss_cons (ps_if (pt_cmpR op_eq (pe_ix (ix_tupK (K := K) rfl) (pv 1) pe_int (fun _ _ => rfl)) pe_str (nomark _))
  (pss_one (ps_ret (pe_call (ok_number_word T) (hr.mono (by decide)) (by rfl) T.m_number_word T.F_number_word.kp T.b_number_word .nil pass0 (pa_cons (pe_ix (ix_tupK (K := K) rfl) (pv 1) pe_int (fun _ _ => rfl)) pa_nil))))
  pss_nil)
  (pss_cons (ps_expr (pe_meth (pv 0) T.clR T.me_Rneed_box (ok_Rneed_box T) (hr.mono (by decide)) T.b_Rneed_box .nil pass0 (pa_cons (pe_ix (ix_tupK (K := K) rfl) (pv 1) pe_int (fun _ _ => rfl)) pa_nil)))
  (pss_one (ps_ret (pe_call (ok_link_word T) (hr.mono (by decide)) (by rfl) T.m_link_word T.F_link_word.kp T.b_link_word .nil pass0 (pa_cons (pe_ix (ix_tupK (K := K) rfl) (pv 1) pe_int (fun _ _ => rfl)) pa_nil)))))), ?_⟩)
  obtain ⟨p, r, t, bxs, N, th, rfl, R, ok, ht, hv, k⟩ := h
  obtain ⟨⟨dx, eo⟩, er⟩ := id R
  walk_at "rd"
  refine ⟨t, _, 0, _, rfl, rfl, .of ht, at_tup0, ?_⟩
  walk_at "rd"
  rw [eq_num]
  cases th with
  | num n =>
    refine ifT rfl ?_
    walk_at "rd"
    refine ⟨t, _, 1, _, rfl, rfl, .of ht, at_num, ?_⟩
    walk_at "rd"
    exact k _ (Same.refl _)
  | box m =>
    have hm := hv m rfl
    refine ifF rfl ?_
    walk_at "rd"
    refine ⟨p, dx, _, rfl, eo, rmf_no _ _ (by decide +kernel) (by decide +kernel), ?_⟩
    walk_at "rd"
    refine ⟨t, _, 1, _, rfl, rfl, .of ht, at_box, ?_⟩
    refine ⟨p, r, bxs, N, m, rfl, R, ok, hm, fun H1 s1 => ?_⟩
    walk_at "rd"
    refine ⟨t, _, 1, _, rfl, rfl, .of (s1 _ _ ht), at_box, ?_⟩
    walk_at "rd"
    exact k _ s1
theorem cut_take (xs : List V) (k : Nat) : cutV xs none (some (k : Int)) = xs.take k := by
  unfold cutV
  rw [HT.sIx_nat, show HT.sIx xs.length 0 none = 0 from rfl, List.drop_zero, Nat.sub_zero]
  by_cases h : k ≤ xs.length
  · rw [Nat.min_eq_left h]
  · rw [Nat.min_eq_right (by omega), List.take_of_length_le (Nat.le_refl _), List.take_of_length_le (by omega)]
theorem cut_drop (xs : List V) (k : Nat) : cutV xs (some (k : Int)) none = xs.drop k := by
  unfold cutV
  rw [HT.sIx_nat, show HT.sIx xs.length xs.length none = xs.length from rfl]
  by_cases h : k ≤ xs.length
  · rw [Nat.min_eq_left h, List.take_of_length_le (by rw [List.length_drop]; exact Nat.le_refl _)]
  · rw [Nat.min_eq_right (by omega), List.drop_of_length_le (Nat.le_refl _), List.drop_of_length_le (by omega)]
    exact List.take_nil

/-! #### Room.made -/
def sp_Rmade (K : PySem.W.Frag) (A : Adr) : Sp := fun vs H Q E => ∃ (p r l : Addr) (bxs : List (List Th)) (N : Nat) (ths : List Th), vs = [.ref p, .ref l] ∧ RoomAt A.c_Room H p r bxs N ∧ RoomOk bxs N ∧ FieldsAt H l (ths.map (toPl bxs)) ∧ (∀ th ∈ ths, OkTh (toPl bxs th)) ∧ (∀ k, Th.box k ∈ ths → k < bxs.length) ∧ ths.length ≤ 1000 ∧
    (sizeT bxs + 1 + ths.length ≤ N → ∀ r' H', H r' = none → RoomAt A.c_Room H' p r' (bxs ++ [ths]) N → (∀ b o, H b = some o → b ≠ p → H' b = some o) → Q (.int (sizeT bxs)) H') ∧
    (N < sizeT bxs + 1 + ths.length → ∀ H', Same H H' → E (.ref A.c_NoRoom) none H')
theorem ok_Rmade (T : Txt K mg A) : FnOk P w K mg base (L2.CX P w) 5 A.f_Rmade A.d_Rmade ["self", "things"] (sp_Rmade K A) := by
  refine T.F_Rmade.okX sc_Rmade (fun vs H Q E h => by obtain ⟨p, r, l, bxs, N, ths, rfl, R, ok, F, okt, vt, hl, k, kx⟩ := h; rfl) (fun cdv A' outer s H vs Q E hr h => ⟨_, (pss_cons (ps_for (passes_of rfl) rfl (pi_listK (K := K) rfl (pv 1)) (pg_name (i := 2) sc_Rmade.nd rfl (.inl rfl))
  (pss_one (ps_expr (pe_call (ok_need_thing T) (hr.mono (by decide)) (by rfl) T.m_need_thing T.F_need_thing.kp T.b_need_thing .nil pass0 (pa_cons (pv 2) pa_nil)))))
  (pss_cons (ps_set (i := 3) sc_Rmade.nd rfl (.inl rfl) (pe_op op_cat (pe_lst (pa_cons (pe_call (ok_head_word T) (hr.mono (by decide)) (by rfl) T.m_head_word T.F_head_word.kp T.b_head_word .nil pass0 (pa_cons (pe_callB (call_lenK (K := K) rfl) (by rfl) T.z_len (by decide +kernel) (pa_cons (pv 1) pa_nil)) (pa_cons pe_bl pa_nil))) pa_nil)) (pe_lc (own := [("thing", 2)]) (g := gName 2) rfl sc_Rmade.nd (pi_listK (K := K) rfl (pv 1)) (blkOk_by (own := [("thing", 2)]) (N := ["self", "things", "thing", "words", "place"]) (sc := defScope s_Rmade) (by decide +kernel)) (fun _ _ _ _ _ => pg_name (i := 2) sc_Rmade.nd rfl (.inl rfl)) (fun _ _ _ _ _ => pts_nil) (fun _ _ _ _ _ => (pe_meth (pv 0) T.clR T.me_Rword_of (ok_Rword_of T) (hr.mono (by decide)) T.b_Rword_of .nil pass0 (pa_cons (pv 2) pa_nil))))))
  (pss_cons (ps_if (pt_cmpR op_gtI (pe_op op_addI (pe_fldK (K := K) rfl (pv 0) rfl) (pe_callB (call_lenK (K := K) rfl) (by rfl) T.z_len (by decide +kernel) (pa_cons (pv 3) pa_nil))) (pe_callB (call_lenK (K := K) rfl) (by rfl) T.z_len (by decide +kernel) (pa_cons (pe_fldK (K := K) rfl (pv 0) rfl) pa_nil)) (nomark _))
  (pss_one (ps_raise rfl (takes_of rfl rfl rfl rfl) (pmk_own PySem.F.excBase_ValueError T.x_NoRoom T.m_NoRoom T.k_NoRoom (raises_own T.sb_NoRoom T.ty_NoRoom) rfl)))
  pss_nil)
  (pss_cons (ps_set (i := 4) sc_Rmade.nd rfl (.inl rfl) (pe_fldK (K := K) rfl (pv 0) rfl))
  (pss_cons (ps_fld (pv 0) (pe_op op_cat (pe_op op_cat (pe_slice (sl_listK (K := K) rfl) (pe_fldK (K := K) rfl (pv 0) rfl) po_none (po_some (pv 4))) (pv 3)) (pe_slice (sl_listK (K := K) rfl) (pe_fldK (K := K) rfl (pv 0) rfl) (po_some (pe_op op_addI (pv 4) (pe_callB (call_lenK (K := K) rfl) (by rfl) T.z_len (by decide +kernel) (pa_cons (pv 3) pa_nil)))) po_none)) rfl)
  (pss_cons (ps_fld (pv 0) (pe_op op_addI (pv 4) (pe_callB (call_lenK (K := K) rfl) (by rfl) T.z_len (by decide +kernel) (pa_cons (pv 3) pa_nil))) rfl)
  (pss_one (ps_ret (pv 4))))))))), ?_⟩)
  obtain ⟨p, r, l, bxs, N, ths, rfl, R, ok, F, okt, vt, hl, k, kx⟩ := h
  obtain ⟨⟨dx, eo⟩, er⟩ := id R
  obtain ⟨ts, ets, lts, kt⟩ := id F
  rw [List.length_map] at lts
  have h400 := ok.le
  walk_at "rd"
  refine ⟨⟨_, .of ets⟩, for_list (K := K) (a := l) (xs := ts.map V.ref) (fun i σ' H' => ∃ y : Option V, σ' = [some (.ref p), some (.ref l), y, none, none] ∧ Same H H') ⟨none, rfl, Same.refl _⟩ (fun i σ' H' _ ⟨_, _, s⟩ => .of (s _ _ ets)) ?_ ?_⟩
  · rintro i x σ' H' hx ⟨y, rfl, S⟩
    obtain ⟨t, et, rfl⟩ := ref_get hx
    have hi : i < ths.length := by
      have := (List.getElem?_eq_some_iff.mp et).1
      omega
    have eth : (ths.map (toPl bxs))[i]? = some (toPl bxs ths[i]) := by
      rw [List.getElem?_map, List.getElem?_eq_getElem hi]
      rfl
    walk_at "rd"
    refine ⟨t, _, rfl, S _ _ (kt i t _ et eth), okt _ (List.getElem_mem hi), fun H2 s2 => ?_⟩
    exact ⟨_, rfl, S.trans s2⟩
  rintro σ' H1 ⟨y, rfl, S⟩
  have R1 := R.same S
  -- the words
  walk_at "rd"
  refine ⟨l, _, rfl, .inl (.of (S _ _ ets)), ?_⟩
  rw [List.length_map, lts]
  walk_at "rd"
  refine ⟨by show 1 ≤ sizeLine; decide, fun a1 h1 => ?_⟩
  have S1 := fun o => S.trans (same_upd (o := o) h1)
  walk_at "rd"
  refine ⟨⟨_, .of (S1 _ _ _ ets)⟩, fun D hD => lc_list (K := K) (a := l) (xs := ts.map V.ref) (fun i H' => Same (upd H1 a1 (.lst [V.int (4 * (ths.length : Int) + if false then 2 else 0)])) H' ∧ H' D = some (.lst (((ths.take i).map (wordT (pg bxs))).map V.int))) ⟨same_upd hD, upd_same⟩ (fun i H' _ p => .of (p.1 _ _ (S1 _ _ _ ets))) (fun i x H' hx p => ?_) (fun H2 p => ?_)⟩
  · obtain ⟨t, et, rfl⟩ := ref_get hx
    have hi : i < ths.length := by
      have := (List.getElem?_eq_some_iff.mp et).1
      omega
    have eth : (ths.map (toPl bxs))[i]? = some (toPl bxs ths[i]) := by
      rw [List.getElem?_map, List.getElem?_eq_getElem hi]
      rfl
    have S3 := (S1 _).trans p.1
    refine ⟨rfl, ?_⟩
    walk_at "rd"
    refine ⟨_, dx, _, rfl, S3 _ _ eo, rmf_no _ _ (by decide +kernel) (by decide +kernel), ?_⟩
    walk_at "rd"
    refine ⟨_, r, t, bxs, N, ths[i], rfl, R.same S3, ok, S3 _ _ (kt i t _ et eth), fun k hk => vt k (hk ▸ List.getElem_mem hi), fun H4 s4 => ?_⟩
    refine ⟨_, s4 _ _ p.2, sz2001 (by rw [List.length_map, List.length_map, List.length_take]; omega), same_mut hD (p.1.trans s4), ?_⟩
    rw [upd_same, List.take_add_one, List.getElem?_eq_getElem hi, Option.toList_some, List.map_append, List.map_append]
    rfl
  obtain ⟨p1, p2⟩ := p
  rw [List.length_map, lts, List.take_length] at p2
  have n1D : a1 ≠ D := fun z => by rw [← z, upd_same] at hD; cases hD
  refine ⟨a1, D, _, _, rfl, rfl, p1 _ _ upd_same, p2, sz2000 (by rw [List.length_map, List.length_map]; show 1 + ths.length ≤ _; omega), fun a2 h2 => ?_⟩
  have S2 := fun o => ((S1 _).trans p1).trans (same_upd (o := o) h2)
  have ew := fun o => S2 o
  clear ew
  have lw : ((4 * (ths.length : Int)) :: ths.map (wordT (pg bxs))).length = 1 + ths.length := by rw [List.length_cons, List.length_map]; omega
  have e2 : ([V.int (4 * (ths.length : Int) + if false then 2 else 0)] ++ (ths.map (wordT (pg bxs))).map V.int) = ((4 * (ths.length : Int)) :: ths.map (wordT (pg bxs))).map V.int := by
    rw [if_neg Bool.false_ne_true, Int.add_zero]
    rfl
  rw [e2]
  have S3 := S2 (.lst (((4 * (ths.length : Int)) :: ths.map (wordT (pg bxs))).map V.int))
  have ea2 : (upd H2 a2 (.lst (((4 * (ths.length : Int)) :: ths.map (wordT (pg bxs))).map V.int))) a2 = some (.lst (((4 * (ths.length : Int)) :: ths.map (wordT (pg bxs))).map V.int)) := upd_same
  revert S3 ea2
  generalize upd H2 a2 (.lst (((4 * (ths.length : Int)) :: ths.map (wordT (pg bxs))).map V.int)) = H3
  intro S3 ea2
  clear S2 h2 p2 p1 hD S1 h1 R1 S
  have er3 := S3 _ _ er
  have eo3 := S3 _ _ eo
  have nrp : r ≠ p := fun z => by rw [z, eo] at er; cases er
  -- room enough
  walk_at "rd"
  refine ⟨p, A.c_Room, dx, _, _, rfl, eo3, T.clR, T.na_filled, rmf_filled _ _, ?_⟩
  walk_at "rd"
  refine ⟨a2, _, rfl, .inl (.of ea2), ?_⟩
  rw [List.length_map, lw]
  walk_at "rd"
  refine ⟨p, A.c_Room, dx, _, _, rfl, eo3, T.clR, T.na_row, rmf_row _ _, ?_⟩
  walk_at "rd"
  refine ⟨r, _, rfl, .inl (.of er3), ?_⟩
  rw [List.length_map, enc_len ok.sz]
  walk_at "rd"
  by_cases hz : N < sizeT bxs + 1 + ths.length
  · refine ifT (decide_eq_true (by omega)) ?_
    exact kx hz _ S3
  refine ifF (decide_eq_false (by omega)) ?_
  replace hz : sizeT bxs + 1 + ths.length ≤ N := by omega
  replace k := k hz
  -- the row
  walk_at "rd"
  refine ⟨p, A.c_Room, dx, _, _, rfl, eo3, T.clR, T.na_filled, rmf_filled _ _, ?_⟩
  walk_at "rd"
  refine ⟨p, A.c_Room, dx, _, _, rfl, eo3, T.clR, T.na_row, rmf_row _ _, ?_⟩
  walk_at "rd"
  refine ⟨r, _, rfl, .of er3, fun b1 g1 => ?_⟩
  rw [cut_take]
  have T1 := same_upd (o := .lst (((enc bxs N).map V.int).take (sizeT bxs))) g1
  walk_at "rd"
  have n21 : a2 ≠ b1 := ne_of_none ea2 g1
  refine ⟨b1, a2, _, _, rfl, rfl, upd_same, T1 _ _ ea2, sz2000 (by rw [List.length_take, List.length_map, List.length_map, lw]; have := ok.sz; omega), fun b2 g2 => ?_⟩
  have T2 := fun o => T1.trans (same_upd (o := o) g2)
  walk_at "rd"
  refine ⟨p, A.c_Room, dx, _, _, rfl, T2 _ _ _ eo3, T.clR, T.na_row, rmf_row _ _, ?_⟩
  walk_at "rd"
  refine ⟨a2, _, rfl, .inl (.of (T2 _ _ _ ea2)), ?_⟩
  rw [List.length_map, lw]
  walk_at "rd"
  refine ⟨r, _, rfl, .of (T2 _ _ _ er3), fun b3 g3 => ?_⟩
  rw [show (sizeT bxs : Int) + ((1 + ths.length : Nat) : Int) = ((sizeT bxs + (1 + ths.length) : Nat) : Int) by omega, cut_drop]
  have n23 : b2 ≠ b3 := fun z => by rw [← z, upd_same] at g3; cases g3
  have T3 := fun o' => (T2 _).trans (same_upd (o := o') g3)
  refine ⟨b2, b3, _, _, rfl, rfl, by rw [upd_ne n23, upd_same], upd_same, sz2000 (by rw [List.length_append, List.length_take, List.length_drop, List.length_map, List.length_map, lw, enc_len ok.sz]; omega), fun b4 g4 => ?_⟩
  have eb : ((enc bxs N).map V.int).take (sizeT bxs) ++ ((4 * (ths.length : Int)) :: ths.map (wordT (pg bxs))).map V.int ++ ((enc bxs N).map V.int).drop (sizeT bxs + (1 + ths.length)) = (enc (bxs ++ [ths]) N).map V.int := by
    rw [← List.map_take, ← List.map_drop, ← List.map_append, ← List.map_append, ← enc_made ok vt hz]
  rw [eb]
  have T4 := fun o'' => (T3 _).trans (same_upd (o := o'') g4)
  have g40 : H b4 = none := S3.free ((T3 _).free g4)
  have np4 : p ≠ b4 := ne_of_none eo g40
  walk_at "rd"
  refine ⟨p, A.c_Room, dx, _, rfl, T4 _ _ _ eo3, T.clR, T.na_row, rmf_len _ _, ?_⟩
  rw [put_row]
  walk_at "rd"
  refine ⟨a2, _, rfl, .inl (.of (by rw [upd_ne (show a2 ≠ p from fun z => by rw [z, eo3] at ea2; cases ea2)]; exact T4 _ _ _ ea2)), ?_⟩
  rw [List.length_map, lw]
  walk_at "rd"
  refine ⟨p, A.c_Room, dx, _, rfl, upd_same, T.clR, T.na_filled, rmf_len _ _, ?_⟩
  rw [show (sizeT bxs : Int) + ((1 + ths.length : Nat) : Int) = ((sizeT (bxs ++ [ths]) : Nat) : Int) by rw [sizeT_append]; show _ = ((sizeT bxs + (1 + ths.length + 0) : Nat) : Int); omega, put_filled]
  walk_at "rd"
  refine k b4 _ g40 ⟨⟨dx, upd_same⟩, ?_⟩ fun b o e hb => by rw [upd_ne hb, upd_ne hb]; exact T4 _ _ _ (S3 _ _ e)
  rw [upd_ne np4.symm, upd_ne np4.symm, upd_same]
theorem pad_len (n : Nat) : (List.replicate n (0 : Int)).length = n := List.length_replicate
theorem room_nil {bxs : List (List Th)} {N : Nat} (ok : RoomOk bxs N) : bsOf (pg bxs) bxs ≠ [] := fun z => by
  have e : bxs = [] := List.map_eq_nil_iff.mp z
  have := ok.ne
  rw [e] at this
  exact absurd this (by decide)
/-! #### Room.put -/
def sp_Rput (K : PySem.W.Frag) (A : Adr) : Sp := fun vs H Q _ => ∃ (p r t : Addr) (bxs : List (List Th)) (N i f : Nat) (fs : List Th) (th : Th), vs = [.ref p, .int (plT bxs i), .int f, .ref t] ∧ RoomAt A.c_Room H p r bxs N ∧ RoomOk bxs N ∧ bxs[i]? = some fs ∧ f < fs.length ∧ H t = some (.tup (thV (toPl bxs th))) ∧ OkTh (toPl bxs th) ∧ (∀ k, th = .box k → k < bxs.length) ∧
    ∀ H', RoomAt A.c_Room H' p r (bxs.set i (fs.set f th)) N → (∀ b o, H b = some o → b ≠ r → H' b = some o) → Q .non H'
theorem ok_Rput (T : Txt K mg A) : FnOk P w K mg base CX0 5 A.f_Rput A.d_Rput ["self", "place", "field", "thing"] (sp_Rput K A) := by
  refine T.F_Rput.ok sc_Rput (fun vs H Q E h => by obtain ⟨p, r, t, bxs, N, i, f, fs, th, rfl, R, ok, hi, hf, ht, okt, vt, k⟩ := h; rfl) (fun cdv A' outer s H vs Q E hr h => ⟨_, (pss_cons (ps_expr (pe_meth (pv 0) T.clR T.me_Rneed_box (ok_Rneed_box T) (hr.mono (by decide)) T.b_Rneed_box .nil pass0 (pa_cons (pv 1) pa_nil)))
  (pss_cons (ps_if (PW.pt (pw_or (pt_not (pt_val (pe_call (ok_is_whole T) (hr.mono (by decide)) (by rfl) T.m_is_whole T.F_is_whole.kp T.b_is_whole .nil pass0 (pa_cons (pv 2) pa_nil)))) (pw_or1 (pt_not (pt_chain op_leI op_ltI pe_int (pv 2) (pe_call (ok_fields_of T) (hr.mono (by decide)) (by rfl) T.m_fields_of T.F_fields_of.kp T.b_fields_of .nil pass0 (pa_cons (pe_ix (ix_listK (K := K) rfl) (pe_fldK (K := K) rfl (pv 0) rfl) (pv 1) (fun _ _ => rfl)) pa_nil)))))))
  (pss_one ps_never)
  pss_nil)
  (pss_cons (ps_expr (pe_call (ok_need_thing T) (hr.mono (by decide)) (by rfl) T.m_need_thing T.F_need_thing.kp T.b_need_thing .nil pass0 (pa_cons (pv 3) pa_nil)))
  (pss_one (ps_asg (pe_meth (pv 0) T.clR T.me_Rword_of (ok_Rword_of T) (hr.mono (by decide)) T.b_Rword_of .nil pass0 (pa_cons (pv 3) pa_nil)) (pg_sub (pe_fldK (K := K) rfl (pv 0) rfl) (pe_op op_addI (pe_op op_addI (pv 1) pe_int) (pv 2)) set_list)))))), ?_⟩)
  obtain ⟨p, r, t, bxs, N, i, f, fs, th, rfl, R, ok, hi, hf, ht, okt, vt, k⟩ := h
  have hil := (List.getElem?_eq_some_iff.mp hi).1
  have hsf := sizeT_field hi
  have h400 := ok.le
  have hsz := ok.sz
  walk_at "rd"
  obtain ⟨⟨dx, eo⟩, er⟩ := id R
  refine ⟨p, dx, _, rfl, eo, rmf_no _ _ (by decide +kernel) (by decide +kernel), ?_⟩
  walk_at "rd"
  refine ⟨p, r, bxs, N, i, rfl, R, ok, hil, fun H1 s1 => ?_⟩
  have eo1 := s1 _ _ eo
  have er1 := s1 _ _ er
  walk_at "rd"
  refine ifF (by rw [decide_eq_true (show ((f : Int)).natAbs < 10 ^ 60 by omega)]; rfl) ?_
  walk_at "rd"
  refine ⟨p, A.c_Room, dx, _, _, rfl, eo1, T.clR, T.na_row, rmf_row _ _, ?_⟩
  walk_at "rd"
  refine ⟨r, _, _, _, rfl, rfl, .of er1, at_int (enc_head hi), ?_⟩
  walk_at "rd"
  rw [show (4 * (fs.length : Int)) / 4 = (fs.length : Int) by omega]
  refine ifF (by rw [decide_eq_true (show (f : Int) < (fs.length : Int) by omega)]; rfl) ?_
  walk_at "rd"
  refine ⟨t, _, rfl, s1 _ _ ht, okt, fun H2 s2 => ?_⟩
  have s12 := s1.trans s2
  walk_at "rd"
  refine ⟨p, dx, _, rfl, s12 _ _ eo, rmf_no _ _ (by decide +kernel) (by decide +kernel), ?_⟩
  walk_at "rd"
  refine ⟨p, r, t, bxs, N, th, rfl, R.same s12, ok, s12 _ _ ht, vt, fun H3 s3 => ?_⟩
  have s13 := s12.trans s3
  walk_at "rd"
  refine ⟨p, A.c_Room, dx, _, _, rfl, s13 _ _ eo, T.clR, T.na_row, rmf_row _ _, ?_⟩
  walk_at "rd"
  rw [show (plT bxs i : Int) + 1 + (f : Int) = ((plT bxs i + 1 + f : Nat) : Int) by omega]
  refine ⟨r, _, ((plT bxs i + 1 + f : Nat) : Int), plT bxs i + 1 + f, rfl, rfl, s13 _ _ er, ix_nat (by rw [enc_len hsz]; omega), ?_⟩
  rw [set_ints, ← enc_put hi hf]
  have nrp : r ≠ p := fun z => by rw [z, eo] at er; cases er
  refine k _ ⟨⟨dx, ?_⟩, upd_same⟩ fun b o e hb => by rw [upd_ne hb]; exact s13 _ _ e
  rw [upd_ne nrp.symm, sizeT_set hi List.length_set]
  exact s13 _ _ eo
/-! #### Room.told -/
def sp_Rtold (K : PySem.W.Frag) (A : Adr) : Sp := fun vs H Q _ => ∃ (p r : Addr) (bxs : List (List Th)) (N i : Nat) (fs : List Th), vs = [.ref p, .int (plT bxs i)] ∧ RoomAt A.c_Room H p r bxs N ∧ RoomOk bxs N ∧ bxs[i]? = some fs ∧
    ∀ l H', H l = none → Same H H' → FieldsAt H' l (fs.map (toPl bxs)) → Q (.ref l) H'
theorem ok_Rtold (T : Txt K mg A) : FnOk P w K mg base CX0 4 A.f_Rtold A.d_Rtold ["self", "place"] (sp_Rtold K A) := by
  refine T.F_Rtold.ok sc_Rtold (fun vs H Q E h => by obtain ⟨p, r, bxs, N, i, fs, rfl, R, ok, hi, k⟩ := h; rfl) (fun cdv A' outer s H vs Q E hr h => ⟨_, (pss_cons (ps_expr (pe_meth (pv 0) T.clR T.me_Rneed_box (ok_Rneed_box T) (hr.mono (by decide)) T.b_Rneed_box .nil pass0 (pa_cons (pv 1) pa_nil)))
  (pss_one (ps_ret (pe_lc (own := [("word", 2)]) (g := gName 2) rfl sc_Rtold.nd (pi_listK (K := K) rfl (pe_slice (sl_listK (K := K) rfl) (pe_fldK (K := K) rfl (pv 0) rfl) (po_some (pe_op op_addI (pv 1) pe_int)) (po_some (pe_op op_addI (pe_op op_addI (pv 1) pe_int) (pe_call (ok_fields_of T) (hr.mono (by decide)) (by rfl) T.m_fields_of T.F_fields_of.kp T.b_fields_of .nil pass0 (pa_cons (pe_ix (ix_listK (K := K) rfl) (pe_fldK (K := K) rfl (pv 0) rfl) (pv 1) (fun _ _ => rfl)) pa_nil)))))) (blkOk_by (own := [("word", 2)]) (N := ["self", "place", "word"]) (sc := defScope s_Rtold) (by decide +kernel)) (fun _ _ _ _ _ => pg_name (i := 2) sc_Rtold.nd rfl (.inl rfl)) (fun _ _ _ _ _ => pts_nil) (fun _ _ _ _ _ => (pe_call (ok_thing_of T) (hr.mono (by decide)) (by rfl) T.m_thing_of T.F_thing_of.kp T.b_thing_of .nil pass0 (pa_cons (pv 2) pa_nil))))))), ?_⟩)
  obtain ⟨p, r, bxs, N, i, fs, rfl, R, ok, hi, k⟩ := h
  have hil := (List.getElem?_eq_some_iff.mp hi).1
  have hsf := sizeT_field hi
  have h400 := ok.le
  have hsz := ok.sz
  walk_at "rd"
  obtain ⟨⟨dx, eo⟩, er⟩ := id R
  refine ⟨p, dx, _, rfl, eo, rmf_no _ _ (by decide +kernel) (by decide +kernel), ?_⟩
  walk_at "rd"
  refine ⟨p, r, bxs, N, i, rfl, R, ok, hil, fun H1 s1 => ?_⟩
  have eo1 := s1 _ _ eo
  have er1 := s1 _ _ er
  walk_at "rd"
  refine ⟨p, A.c_Room, dx, _, _, rfl, eo1, T.clR, T.na_row, rmf_row _ _, ?_⟩
  walk_at "rd"
  refine ⟨p, A.c_Room, dx, _, _, rfl, eo1, T.clR, T.na_row, rmf_row _ _, ?_⟩
  walk_at "rd"
  refine ⟨r, _, _, _, rfl, rfl, .of er1, at_int (enc_head hi), ?_⟩
  walk_at "rd"
  rw [show (4 * (fs.length : Int)) / 4 = (fs.length : Int) by omega, show (plT bxs i : Int) + 1 + (fs.length : Int) = ((plT bxs i + 1 + fs.length : Nat) : Int) by omega, show (plT bxs i : Int) + 1 = ((plT bxs i + 1 : Nat) : Int) by omega]
  refine ⟨r, _, rfl, .of er1, fun q hq => ?_⟩
  have ecut : cutV ((enc bxs N).map V.int) (some ((plT bxs i + 1 : Nat) : Int)) (some ((plT bxs i + 1 + fs.length : Nat) : Int)) = ((fs.map (toPl bxs)).map (wordT fun k => (k : Int))).map V.int := by
    rw [cut_nat, ← List.map_drop, ← List.map_take, show plT bxs i + 1 + fs.length - (plT bxs i + 1) = fs.length by omega, enc_fields hi, List.map_map (f := toPl bxs)]
    exact congrArg _ (List.map_congr_left fun t _ => word_toPl)
  rw [ecut]
  have s2 := fun o => s1.trans (same_upd (o := o) hq)
  walk_at "rd"
  refine ⟨⟨_, .of upd_same⟩, fun D hD => lc_list (K := K) (a := q) (xs := ((fs.map (toPl bxs)).map (wordT fun k => (k : Int))).map V.int) (fun j H' => Same (upd H1 q (.lst (((fs.map (toPl bxs)).map (wordT fun k => (k : Int))).map V.int))) H' ∧ FieldsAt H' D ((fs.map (toPl bxs)).take j)) ⟨same_upd hD, [], upd_same, rfl, fun j u th z => (nomatch z)⟩ (fun j H' _ p => .of (p.1 _ _ upd_same)) (fun j x H' hx p => ?_) (fun H2 p => ?_)⟩
  · obtain ⟨th, eth, rfl⟩ : ∃ th, (fs.map (toPl bxs))[j]? = some th ∧ x = .int (wordT (fun k => (k : Int)) th) := by
      rw [List.getElem?_map, List.getElem?_map] at hx
      cases e : (fs.map (toPl bxs))[j]? with
      | none => rw [e] at hx; cases hx
      | some th => rw [e] at hx; exact ⟨th, rfl, (Option.some.inj hx).symm⟩
    have hj : j < fs.length := by
      have := (List.getElem?_eq_some_iff.mp eth).1
      rw [List.length_map] at this
      exact this
    refine ⟨rfl, ?_⟩
    walk_at "rd"
    refine fun t H4 h4 s4 e4 => ?_
    obtain ⟨ts, e5, l5, F5⟩ := (p.2.same s4).push e4
    refine ⟨_, e5, sz2001 (by rw [List.length_map, l5, List.length_take, List.length_map]; omega), same_mut hD (p.1.trans s4), ?_⟩
    rw [List.take_add_one, eth, Option.toList_some]
    rw [List.map_append] at F5
    exact F5
  obtain ⟨p1, p2⟩ := p
  rw [List.length_map, List.length_map, List.take_length] at p2
  exact k D _ (s1.free ((same_upd hq).free hD)) ((s2 _).trans p1) p2
/-! #### Room.places -/
def sp_Rplaces (K : PySem.W.Frag) (A : Adr) : Sp := fun vs H Q _ => ∃ (p r : Addr) (bxs : List (List Th)) (N : Nat), vs = [.ref p] ∧ RoomAt A.c_Room H p r bxs N ∧ RoomOk bxs N ∧
    ∀ q H', H q = none → Same H H' → H' q = some (.lst ((placesT 0 bxs).map natV)) → Q (.ref q) H'
theorem ok_Rplaces (T : Txt K mg A) : FnOk P w K mg base CX0 3 A.f_Rplaces A.d_Rplaces ["self"] (sp_Rplaces K A) := by
  refine T.F_Rplaces.ok sc_Rplaces (fun vs H Q E h => by obtain ⟨p, r, bxs, N, rfl, R, ok, k⟩ := h; rfl) (fun cdv A' outer s H vs Q E hr h => ⟨_, (pss_one (ps_ret (pe_call (ok_heads T) (hr.mono (by decide)) (by rfl) T.m_heads T.F_heads.kp T.b_heads .nil pass0 (pa_cons (pe_fldK (K := K) rfl (pv 0) rfl) (pa_cons (pe_fldK (K := K) rfl (pv 0) rfl) pa_nil))))), ?_⟩)
  obtain ⟨p, r, bxs, N, rfl, R, ok, k⟩ := h
  obtain ⟨⟨dx, eo⟩, er⟩ := id R
  walk_at "rd"
  refine ⟨p, A.c_Room, dx, _, _, rfl, eo, T.clR, T.na_row, rmf_row _ _, ?_⟩
  walk_at "rd"
  refine ⟨p, A.c_Room, dx, _, _, rfl, eo, T.clR, T.na_filled, rmf_filled _ _, ?_⟩
  have esz : sizeT bxs = size (bsOf (pg bxs) bxs) := (size_bsOf _ _).symm
  rw [enc_eq] at er
  refine ⟨r, fun _ => false, bsOf (pg bxs) bxs, _, by rw [esz]; rfl, .of er, by rw [← esz]; have := ok.sz; have := ok.le; omega, fun q H1 hq s1 eq => ?_⟩
  rw [places_bsOf] at eq
  exact k q H1 hq s1 eq
theorem placesT_range (bxs : List (List Th)) : placesT 0 bxs = (List.range bxs.length).map (plT bxs) := by
  refine List.ext_getElem? fun i => ?_
  by_cases h : i < bxs.length
  · rw [placesT_get0 h, List.getElem?_map, List.getElem?_eq_getElem (by rw [List.length_range]; exact h), List.getElem_range]
    rfl
  · rw [List.getElem?_eq_none (by rw [placesT_len]; omega), List.getElem?_eq_none (by rw [List.length_map, List.length_range]; omega)]
theorem come_list {bxs : List (List Th)} (v : VB bxs) (h0 : 0 < bxs.length) : (placesT 0 bxs).filter (alive (bsOf (pg bxs) bxs)) = (keptT bxs).map (plT bxs) := by
  rw [placesT_range, List.filter_map]
  unfold keptT
  exact congrArg _ (List.filter_congr fun k hk => alive_pl v h0 (List.mem_range.mp hk))
/-! #### Room.come_to -/
def sp_Rcome_to (K : PySem.W.Frag) (A : Adr) : Sp := fun vs H Q _ => ∃ (p r : Addr) (bxs : List (List Th)) (N : Nat), vs = [.ref p] ∧ RoomAt A.c_Room H p r bxs N ∧ RoomOk bxs N ∧
    ∀ q H', H q = none → Same H H' → H' q = some (.lst (((keptT bxs).map (plT bxs)).map natV)) → Q (.ref q) H'
theorem ok_Rcome_to (T : Txt K mg A) : FnOk P w K mg base CX0 3 A.f_Rcome_to A.d_Rcome_to ["self"] (sp_Rcome_to K A) := by
  refine T.F_Rcome_to.ok sc_Rcome_to (fun vs H Q E h => by obtain ⟨p, r, bxs, N, rfl, R, ok, k⟩ := h; rfl) (fun cdv A' outer s H vs Q E hr h => ⟨_, (pss_cons (ps_set (i := 1) sc_Rcome_to.nd rfl (.inr rfl) (pe_call (ok_marked T) (hr.mono (by decide)) (by rfl) T.m_marked T.F_marked.kp T.b_marked .nil pass0 (pa_cons (pe_fldK (K := K) rfl (pv 0) rfl) (pa_cons (pe_fldK (K := K) rfl (pv 0) rfl) pa_nil))))
  (pss_one (ps_ret (pe_lc (own := [("place", 2)]) (g := gName 2) rfl sc_Rcome_to.nd (pi_listK (K := K) rfl (pe_call (ok_heads T) (hr.mono (by decide)) (by rfl) T.m_heads T.F_heads.kp T.b_heads .nil pass0 (pa_cons (pv 1) (pa_cons (pe_fldK (K := K) rfl (pv 0) rfl) pa_nil)))) (blkOk_by (own := [("place", 2)]) (N := ["self", "row", "place"]) (sc := defScope s_Rcome_to) (by decide +kernel)) (fun _ _ _ _ _ => pg_name (i := 2) sc_Rcome_to.nd rfl (.inl rfl)) (fun _ _ _ _ _ => (pts_one (pt_val (pe_call (ok_is_marked T) (hr.mono (by decide)) (by rfl) T.m_is_marked T.F_is_marked.kp T.b_is_marked .nil pass0 (pa_cons (pe_ix (ix_listK (K := K) rfl) (pv 1) (pv 2) (fun _ _ => rfl)) pa_nil))))) (fun _ _ _ _ _ => (pv 2)))))), ?_⟩)
  obtain ⟨p, r, bxs, N, rfl, R, ok, k⟩ := h
  obtain ⟨⟨dx, eo⟩, er⟩ := id R
  have h400 := ok.le
  have hsz := ok.sz
  walk_at "rd"
  refine ⟨p, A.c_Room, dx, _, _, rfl, eo, T.clR, T.na_row, rmf_row _ _, ?_⟩
  walk_at "rd"
  refine ⟨p, A.c_Room, dx, _, _, rfl, eo, T.clR, T.na_filled, rmf_filled _ _, ?_⟩
  have esz : sizeT bxs = size (bsOf (pg bxs) bxs) := (size_bsOf _ _).symm
  rw [enc_eq] at er
  refine ⟨r, bsOf (pg bxs) bxs, _, by rw [esz]; rfl, .of er, by rw [← esz]; omega, room_nil ok, ok.vb.valid, fun m H1 hm s1 em => ?_⟩
  walk_at "rd"
  refine ⟨p, A.c_Room, dx, _, _, rfl, s1 _ _ eo, T.clR, T.na_filled, rmf_filled _ _, ?_⟩
  refine ⟨m, alive (bsOf (pg bxs) bxs), bsOf (pg bxs) bxs, _, by rw [esz]; rfl, .of em, by rw [← esz]; omega, fun q H2 hq s2 eq => ?_⟩
  rw [places_bsOf] at eq
  have em2 := s2 _ _ em
  walk_at "rd"
  refine ⟨⟨_, .of eq⟩, fun D hD => lc_list (K := K) (a := q) (xs := (placesT 0 bxs).map natV) (fun j H' => Same H2 H' ∧ H' D = some (.lst ((((placesT 0 bxs).take j).filter (alive (bsOf (pg bxs) bxs))).map natV))) ⟨same_upd hD, upd_same⟩ (fun j H' _ p => .of (p.1 _ _ eq)) (fun j x H' hx p => ?_) (fun H3 p => ?_)⟩
  · obtain ⟨h, eh, rfl⟩ : ∃ h, (placesT 0 bxs)[j]? = some h ∧ x = natV h := by
      rw [List.getElem?_map] at hx
      cases e : (placesT 0 bxs)[j]? with
      | none => rw [e] at hx; cases hx
      | some h => rw [e] at hx; exact ⟨h, rfl, (Option.some.inj hx).symm⟩
    have hmem : h ∈ places 0 (bsOf (pg bxs) bxs) := by
      rw [places_bsOf]
      exact List.mem_of_getElem? eh
    obtain ⟨pp, gs, rr, eb, rfl⟩ := places_at hmem
    have hj : j < bxs.length := by rw [← placesT_len 0 bxs]; exact (List.getElem?_eq_some_iff.mp eh).1
    have hlen := len_le_size bxs
    refine ⟨rfl, ?_⟩
    walk_at "rd"
    refine ⟨m, _, _, _, rfl, rfl, .of (p.1 _ _ em2), at_int (at_row eb), ?_⟩
    walk_at "rd"
    rw [List.take_add_one, eh, Option.toList_some, List.filter_append]
    by_cases ha : alive (bsOf (pg bxs) bxs) (size pp) = true
    · refine ifT (decide_eq_true ((head_mark _ _).mpr ha)) ?_
      walk_at "rd"
      refine ⟨_, p.2, sz2001 (by rw [List.length_map]; have := List.length_filter_le (alive (bsOf (pg bxs) bxs)) ((placesT 0 bxs).take j); rw [List.length_take] at this; omega), same_mut hD p.1, ?_⟩
      rw [upd_same, List.filter_cons_of_pos ha, List.filter_nil, List.map_append]
      rfl
    · refine ifF (decide_eq_false fun z => ha ((head_mark _ _).mp z)) ?_
      rw [List.filter_cons_of_neg ha, List.filter_nil, List.append_nil]
      exact p
  obtain ⟨p1, p2⟩ := p
  rw [List.length_map, List.take_length, come_list ok.vb ok.ne] at p2
  exact k D _ (s1.free (s2.free hD)) ((s1.trans s2).trans p1) p2
/-! #### Room.pushed -/
def sp_Rpushed (K : PySem.W.Frag) (A : Adr) : Sp := fun vs H Q _ => ∃ (p r : Addr) (bxs : List (List Th)) (N : Nat), vs = [.ref p] ∧ RoomAt A.c_Room H p r bxs N ∧ RoomOk bxs N ∧
    ∀ r' H', H r' = none → RoomAt A.c_Room H' p r' (kbI bxs) N → (∀ b o, H b = some o → b ≠ p → H' b = some o) → Q (.int ((sizeT bxs : Int) - (sizeT (kbI bxs) : Int))) H'
theorem ok_Rpushed (T : Txt K mg A) : FnOk P w K mg base CX0 5 A.f_Rpushed A.d_Rpushed ["self"] (sp_Rpushed K A) := by
  refine T.F_Rpushed.ok sc_Rpushed (fun vs H Q E h => by obtain ⟨p, r, bxs, N, rfl, R, ok, k⟩ := h; rfl) (fun cdv A' outer s H vs Q E hr h => ⟨_, (pss_cons (ps_set (i := 1) sc_Rpushed.nd rfl (.inl rfl) (pe_fldK (K := K) rfl (pv 0) rfl))
  (pss_cons (ps_set (i := 2) sc_Rpushed.nd rfl (.inl rfl) (pe_call (ok_pushed T) (hr.mono (by decide)) (by rfl) T.m_pushed_sliding T.F_pushed.kp T.b_pushed .nil pass0 (pa_cons (pe_fldK (K := K) rfl (pv 0) rfl) (pa_cons (pv 1) pa_nil))))
  (pss_cons (ps_fld (pv 0) (pe_ix (ix_tupK (K := K) rfl) (pv 2) pe_int (fun _ _ => rfl)) rfl)
  (pss_cons (ps_fld (pv 0) (pe_ix (ix_tupK (K := K) rfl) (pv 2) pe_int (fun _ _ => rfl)) rfl)
  (pss_one (ps_ret (pe_op op_subI (pv 1) (pe_ix (ix_tupK (K := K) rfl) (pv 2) pe_int (fun _ _ => rfl))))))))), ?_⟩)
  obtain ⟨p, r, bxs, N, rfl, R, ok, k⟩ := h
  obtain ⟨⟨dx, eo⟩, er⟩ := id R
  have h400 := ok.le
  have hsz := ok.sz
  have esz : sizeT bxs = size (bsOf (pg bxs) bxs) := (size_bsOf _ _).symm
  obtain ⟨ep1, ep2⟩ := enc_pushed ok
  walk_at "rd"
  refine ⟨p, A.c_Room, dx, _, _, rfl, eo, T.clR, T.na_filled, rmf_filled _ _, ?_⟩
  walk_at "rd"
  refine ⟨p, A.c_Room, dx, _, _, rfl, eo, T.clR, T.na_row, rmf_row _ _, ?_⟩
  rw [enc_eq] at er
  walk_at "rd"
  refine ⟨r, bsOf (pg bxs) bxs, List.replicate (N - sizeT bxs) 0, by rw [esz]; rfl, .of er, by rw [← esz, List.length_replicate]; omega, room_nil ok, ok.vb.valid, fun t q H1 ht hq s1 et eq => ?_⟩
  rw [← esz, List.length_replicate, show sizeT bxs + (N - sizeT bxs) = N by omega, ep1] at eq
  rw [ep2] at et
  have eo1 := s1 _ _ eo
  have ntp : t ≠ p := fun z => by rw [z, eo1] at et; cases et
  have nqp : q ≠ p := fun z => by rw [z, eo1] at eq; cases eq
  walk_at "rd"
  refine ⟨t, _, 0, .ref q, rfl, rfl, .of et, rfl, ?_⟩
  walk_at "rd"
  refine ⟨p, A.c_Room, dx, _, rfl, eo1, T.clR, T.na_row, rmf_len _ _, ?_⟩
  rw [put_row]
  walk_at "rd"
  refine ⟨t, _, 1, .int (sizeT (kbI bxs) : Int), rfl, rfl, .of (by rw [upd_ne ntp]; exact et), rfl, ?_⟩
  walk_at "rd"
  refine ⟨p, A.c_Room, dx, _, rfl, upd_same, T.clR, T.na_filled, rmf_len _ _, ?_⟩
  rw [put_filled]
  walk_at "rd"
  refine ⟨t, _, 1, .int (sizeT (kbI bxs) : Int), rfl, rfl, .of (by rw [upd_ne ntp, upd_ne ntp]; exact et), rfl, ?_⟩
  walk_at "rd"
  refine k q _ hq ⟨⟨dx, upd_same⟩, ?_⟩ fun b o e hb => by rw [upd_ne hb, upd_ne hb]; exact s1 _ _ e
  rw [upd_ne nqp, upd_ne nqp]
  exact eq
/-! #### Room.used -/
def sp_Rused (K : PySem.W.Frag) (A : Adr) : Sp := fun vs H Q _ => ∃ (p r : Addr) (bxs : List (List Th)) (N : Nat), vs = [.ref p] ∧ RoomAt A.c_Room H p r bxs N ∧ Q (.int (sizeT bxs)) H
theorem ok_Rused (T : Txt K mg A) : FnOk P w K mg base CX0 1 A.f_Rused A.d_Rused ["self"] (sp_Rused K A) := by
  refine T.F_Rused.ok sc_Rused (fun vs H Q E h => by obtain ⟨p, r, bxs, N, rfl, R, k⟩ := h; rfl) (fun cdv A' outer s H vs Q E hr h => ⟨_, (pss_one (ps_ret (pe_fldK (K := K) rfl (pv 0) rfl))), ?_⟩)
  obtain ⟨p, r, bxs, N, rfl, R, k⟩ := h
  obtain ⟨⟨dx, eo⟩, er⟩ := id R
  walk_at "rd"
  refine ⟨p, A.c_Room, dx, _, _, rfl, eo, T.clR, T.na_filled, rmf_filled _ _, ?_⟩
  exact k
/-! #### Room.cells -/
def sp_Rcells (K : PySem.W.Frag) (A : Adr) : Sp := fun vs H Q _ => ∃ (p r : Addr) (bxs : List (List Th)) (N : Nat), vs = [.ref p] ∧ RoomAt A.c_Room H p r bxs N ∧ ∀ q, H q = none → Q (.ref q) (upd H q (.lst ((enc bxs N).map V.int)))
theorem ok_Rcells (T : Txt K mg A) : FnOk P w K mg base CX0 1 A.f_Rcells A.d_Rcells ["self"] (sp_Rcells K A) := by
  refine T.F_Rcells.ok sc_Rcells (fun vs H Q E h => by obtain ⟨p, r, bxs, N, rfl, R, k⟩ := h; rfl) (fun cdv A' outer s H vs Q E hr h => ⟨_, (pss_one (ps_ret (pe_callTy (call_list_ofK (K := K) rfl) (by rfl) T.z_list (by decide +kernel) (pa_cons (pe_fldK (K := K) rfl (pv 0) rfl) pa_nil)))), ?_⟩)
  obtain ⟨p, r, bxs, N, rfl, R, k⟩ := h
  obtain ⟨⟨dx, eo⟩, er⟩ := id R
  walk_at "rd"
  refine ⟨p, A.c_Room, dx, _, _, rfl, eo, T.clR, T.na_row, rmf_row _ _, ?_⟩
  walk_at "rd"
  exact ⟨r, _, rfl, .inl (.of er), k⟩
theorem not_place {bxs : List (List Th)} {z : Int} (h : ∀ k, k < bxs.length → (plT bxs k : Int) ≠ z) : (!inV (.int z) ((placesT 0 bxs).map natV)) = true := by
  have q : inV (.int z) ((placesT 0 bxs).map natV) = false := by
    unfold inV
    rw [List.any_map]
    refine List.any_eq_false.mpr fun d hd => ?_
    show ¬ ((d : Int) == z) = true
    intro e
    obtain ⟨i, hi, ei⟩ := List.mem_iff_getElem.mp hd
    rw [placesT_len] at hi
    have e2 := placesT_get0 hi
    rw [List.getElem?_eq_getElem (by rw [placesT_len]; exact hi), ei] at e2
    have e3 := Option.some.inj e2
    exact h i hi (by rw [← e3]; simpa using e)
  rw [q]
  rfl
/-! #### Room.need_box -/
def sp_Rneed_boxX (K : PySem.W.Frag) (A : Adr) : Sp := fun vs H Q E => ∃ (p r : Addr) (bxs : List (List Th)) (N : Nat) (z : Int), vs = [.ref p, .int z] ∧ RoomAt A.c_Room H p r bxs N ∧ RoomOk bxs N ∧ (∀ k, k < bxs.length → (plT bxs k : Int) ≠ z) ∧ ∀ H', Same H H' → E (.ref A.c_NoBox) none H'
theorem ok_Rneed_boxX (T : Txt K mg A) : FnOk P w K mg base (L2.CX P w) 3 A.f_Rneed_box A.d_Rneed_box ["self", "place"] (sp_Rneed_boxX K A) := by
  refine T.F_Rneed_box.okX sc_Rneed_box (fun vs H Q E h => by obtain ⟨p, r, bxs, N, z, rfl, R, ok, hz, k⟩ := h; rfl) (fun cdv A' outer s H vs Q E hr h => ⟨_, (pss_one (ps_if (PW.pt (pw_or (pt_not (pt_val (pe_call (ok_is_whole T) (hr.mono (by decide)) (by rfl) T.m_is_whole T.F_is_whole.kp T.b_is_whole .nil pass0 (pa_cons (pv 1) pa_nil)))) (pw_or1 (pt_cmpR (op_notInK (K := K) rfl) (pv 1) (pe_call (ok_heads T) (hr.mono (by decide)) (by rfl) T.m_heads T.F_heads.kp T.b_heads .nil pass0 (pa_cons (pe_fldK (K := K) rfl (pv 0) rfl) (pa_cons (pe_fldK (K := K) rfl (pv 0) rfl) pa_nil))) (by rfl)))))
  (pss_one (ps_raise rfl (takes_of rfl rfl rfl rfl) (pmk_own PySem.F.excBase_ValueError T.x_NoBox T.m_NoBox T.k_NoBox (raises_own T.sb_NoBox T.ty_NoBox) rfl)))
  pss_nil)), ?_⟩)
  obtain ⟨p, r, bxs, N, z, rfl, R, ok, hz, k⟩ := h
  obtain ⟨⟨dx, eo⟩, er⟩ := id R
  walk_at "rd"
  by_cases hs : z.natAbs < 10 ^ 60
  · refine ifF (by rw [decide_eq_true hs]; rfl) ?_
    walk_at "rd"
    refine ⟨p, A.c_Room, dx, _, _, rfl, eo, T.clR, T.na_row, rmf_row _ _, ?_⟩
    walk_at "rd"
    refine ⟨p, A.c_Room, dx, _, _, rfl, eo, T.clR, T.na_filled, rmf_filled _ _, ?_⟩
    have esz : sizeT bxs = size (bsOf (pg bxs) bxs) := (size_bsOf _ _).symm
    rw [enc_eq] at er
    refine ⟨r, fun _ => false, bsOf (pg bxs) bxs, _, by rw [esz]; rfl, .of er, by rw [← esz]; have := ok.sz; have := ok.le; omega, fun q H1 hq s1 eq => ?_⟩
    rw [places_bsOf] at eq
    walk_at "rd"
    refine ⟨q, _, rfl, .inl (.of eq), rfl, flat_nats _, ?_⟩
    walk_at "rd"
    refine ifT (not_place hz) ?_
    exact k _ s1
  · refine ifT (by rw [decide_eq_false hs]; rfl) ?_
    exact k _ (Same.refl _)
/-! #### need_thing -/
def sp_need_thingR (K : PySem.W.Frag) : Sp := fun vs H Q _ => ∃ (t : Addr) (b : Bool) (n : Int), vs = [.ref t] ∧ H t = some (.tup [.str (if b = true then "box" else "number"), .int n]) ∧ n.natAbs < 10 ^ 60 ∧ ∀ H', Same H H' → Q .non H'
theorem ok_need_thingR (T : Txt K mg A) : FnOk P w K mg base CX0 2 A.f_need_thing A.d_need_thing ["thing"] (sp_need_thingR K) := by
  refine T.F_need_thing.ok sc_need_thing (fun vs H Q E h => by obtain ⟨t, b, n, rfl, ht, hn, k⟩ := h; rfl) (fun cdv A' outer s H vs Q E hr h => ⟨_, (pss_cons (ps_if (PW.pt (pw_or (pt_not (pt_val (pe_callB (call_isiK (K := K) rfl) (by rfl) T.z_isinstance (by decide +kernel) (pa_cons (pv 0) (pa_cons (pe_bltn (v := .ty "tuple") (by rfl) T.z_tuple (by decide +kernel) rfl) pa_nil))))) (pw_or (pt_cmpR op_ne (pe_callB (call_lenK (K := K) rfl) (by rfl) T.z_len (by decide +kernel) (pa_cons (pv 0) pa_nil)) pe_int (nomark _)) (pw_or1 (pt_not (pt_val (pe_callB (call_isiK (K := K) rfl) (by rfl) T.z_isinstance (by decide +kernel) (pa_cons (pe_ix (ix_tupK (K := K) rfl) (pv 0) pe_int (fun _ _ => rfl)) (pa_cons (pe_bltn (v := .ty "str") (by rfl) T.z_str (by decide +kernel) rfl) pa_nil)))))))))
  (pss_one ps_never)
  pss_nil)
  (pss_one (ps_if (PW.pt (pw_or (pt_cmpR (op_notInK (K := K) rfl) (pe_ix (ix_tupK (K := K) rfl) (pv 0) pe_int (fun _ _ => rfl)) (pe_tup (pa_cons pe_str (pa_cons pe_str pa_nil))) (by rfl)) (pw_or1 (pt_not (pt_val (pe_call (ok_is_whole T) (hr.mono (by decide)) (by rfl) T.m_is_whole T.F_is_whole.kp T.b_is_whole .nil pass0 (pa_cons (pe_ix (ix_tupK (K := K) rfl) (pv 0) pe_int (fun _ _ => rfl)) pa_nil)))))))
  (pss_one ps_never)
  pss_nil))), ?_⟩)
  obtain ⟨t, b, n, rfl, ht, hn, k⟩ := h
  walk_at "rd"
  refine ⟨.ref t, _, _, _, true, rfl, .ty "tuple", .base (.tup ht), kit_ty (by decide +kernel), ?_⟩
  walk_at "rd"
  refine ⟨t, _, rfl, .inr (.of ht), ?_⟩
  walk_at "rd"
  refine ⟨t, _, 0, _, rfl, rfl, .of ht, rfl, ?_⟩
  walk_at "rd"
  refine ⟨.str _, _, _, _, true, rfl, .ty "str", .base (.str _), kit_ty (by decide +kernel), ?_⟩
  walk_at "rd"
  refine ⟨t, _, 0, _, rfl, rfl, .of ht, rfl, ?_⟩
  walk_at "rd"
  refine ⟨by show 2 ≤ sizeLine; decide, fun q hq => ?_⟩
  refine ⟨q, _, rfl, .inr (.of upd_same), rfl, rfl, ?_⟩
  walk_at "rd"
  refine ifF (by cases b <;> decide +kernel) ?_
  have hs := same_upd (o := .tup [V.str "number", V.str "box"]) hq
  walk_at "rd"
  refine ⟨t, _, 1, _, rfl, rfl, .of (hs _ _ ht), rfl, ?_⟩
  walk_at "rd"
  refine ifF (by rw [decide_eq_true hn]; rfl) ?_
  exact k _ hs
/-! #### Room.word_of -/
def sp_Rword_ofX (K : PySem.W.Frag) (A : Adr) : Sp := fun vs H Q E => ∃ (p r t : Addr) (bxs : List (List Th)) (N : Nat), vs = [.ref p, .ref t] ∧ RoomAt A.c_Room H p r bxs N ∧ RoomOk bxs N ∧ ((∃ n : Int, H t = some (.tup [.str "number", .int n]) ∧ Q (.int (2 * n)) H) ∨
    ∃ z : Int, H t = some (.tup [.str "box", .int z]) ∧ (∀ k, k < bxs.length → (plT bxs k : Int) ≠ z) ∧ ∀ H', Same H H' → E (.ref A.c_NoBox) none H')
theorem ok_Rword_ofX (T : Txt K mg A) : FnOk P w K mg base (L2.CX P w) 4 A.f_Rword_of A.d_Rword_of ["self", "thing"] (sp_Rword_ofX K A) := by
  refine T.F_Rword_of.okX sc_Rword_of (fun vs H Q E h => by obtain ⟨p, r, t, bxs, N, rfl, R, ok, k⟩ := h; rfl) (fun cdv A' outer s H vs Q E hr h => ⟨_, (pss_cons (ps_if (pt_cmpR op_eq (pe_ix (ix_tupK (K := K) rfl) (pv 1) pe_int (fun _ _ => rfl)) pe_str (nomark _))
  (pss_one (ps_ret (pe_call (ok_number_word T) (hr.mono (by decide)) (by rfl) T.m_number_word T.F_number_word.kp T.b_number_word .nil pass0 (pa_cons (pe_ix (ix_tupK (K := K) rfl) (pv 1) pe_int (fun _ _ => rfl)) pa_nil))))
  pss_nil)
  (pss_cons (ps_expr (pe_meth (pv 0) T.clR T.me_Rneed_box (ok_Rneed_boxX T) (hr.mono (by decide)) T.b_Rneed_box .nil (passes_call (takes_of rfl rfl rfl rfl) fun _ _ _ _ z => z) (pa_cons (pe_ix (ix_tupK (K := K) rfl) (pv 1) pe_int (fun _ _ => rfl)) pa_nil)))
  (pss_one (ps_ret (pe_call (ok_link_word T) (hr.mono (by decide)) (by rfl) T.m_link_word T.F_link_word.kp T.b_link_word .nil pass0 (pa_cons (pe_ix (ix_tupK (K := K) rfl) (pv 1) pe_int (fun _ _ => rfl)) pa_nil)))))), ?_⟩)
  obtain ⟨p, r, t, bxs, N, rfl, R, ok, k⟩ := h
  obtain ⟨⟨dx, eo⟩, er⟩ := id R
  rcases k with ⟨n, ht, k⟩ | ⟨z, ht, hz, k⟩
  · walk_at "rd"
    refine ⟨t, _, 0, _, rfl, rfl, .of ht, rfl, ?_⟩
    walk_at "rd"
    refine ⟨t, _, 1, _, rfl, rfl, .of ht, rfl, ?_⟩
    walk_at "rd"
    exact k
  · walk_at "rd"
    refine ⟨t, _, 0, _, rfl, rfl, .of ht, rfl, ?_⟩
    walk_at "rd"
    refine ⟨p, dx, _, rfl, eo, rmf_no _ _ (by decide +kernel) (by decide +kernel), ?_⟩
    walk_at "rd"
    refine ⟨t, _, 1, _, rfl, rfl, .of ht, rfl, ?_⟩
    exact ⟨p, r, bxs, N, z, rfl, R, ok, hz, k⟩
/-! #### Room.told -/
def sp_RtoldX (K : PySem.W.Frag) (A : Adr) : Sp := fun vs H Q E => ∃ (p r : Addr) (bxs : List (List Th)) (N : Nat) (z : Int), vs = [.ref p, .int z] ∧ RoomAt A.c_Room H p r bxs N ∧ RoomOk bxs N ∧ (∀ k, k < bxs.length → (plT bxs k : Int) ≠ z) ∧ ∀ H', Same H H' → E (.ref A.c_NoBox) none H'
theorem ok_RtoldX (T : Txt K mg A) : FnOk P w K mg base (L2.CX P w) 4 A.f_Rtold A.d_Rtold ["self", "place"] (sp_RtoldX K A) := by
  refine T.F_Rtold.okX sc_Rtold (fun vs H Q E h => by obtain ⟨p, r, bxs, N, z, rfl, R, ok, hz, k⟩ := h; rfl) (fun cdv A' outer s H vs Q E hr h => ⟨_, (pss_cons (ps_expr (pe_meth (pv 0) T.clR T.me_Rneed_box (ok_Rneed_boxX T) (hr.mono (by decide)) T.b_Rneed_box .nil (passes_call (takes_of rfl rfl rfl rfl) fun _ _ _ _ z => z) (pa_cons (pv 1) pa_nil)))
  (pss_one (ps_ret (pe_lc (own := [("word", 2)]) (g := gName 2) rfl sc_Rtold.nd (pi_listK (K := K) rfl (pe_slice (sl_listK (K := K) rfl) (pe_fldK (K := K) rfl (pv 0) rfl) (po_some (pe_op op_addI (pv 1) pe_int)) (po_some (pe_op op_addI (pe_op op_addI (pv 1) pe_int) (pe_call (ok_fields_of T) (hr.mono (by decide)) (by rfl) T.m_fields_of T.F_fields_of.kp T.b_fields_of .nil pass0 (pa_cons (pe_ix (ix_listK (K := K) rfl) (pe_fldK (K := K) rfl (pv 0) rfl) (pv 1) (fun _ _ => rfl)) pa_nil)))))) (blkOk_by (own := [("word", 2)]) (N := ["self", "place", "word"]) (sc := defScope s_Rtold) (by decide +kernel)) (fun _ _ _ _ _ => pg_name (i := 2) sc_Rtold.nd rfl (.inl rfl)) (fun _ _ _ _ _ => pts_nil) (fun _ _ _ _ _ => (pe_call (ok_thing_of T) (hr.mono (by decide)) (by rfl) T.m_thing_of T.F_thing_of.kp T.b_thing_of .nil pass0 (pa_cons (pv 2) pa_nil))))))), ?_⟩)
  obtain ⟨p, r, bxs, N, z, rfl, R, ok, hz, k⟩ := h
  obtain ⟨⟨dx, eo⟩, er⟩ := id R
  walk_at "rd"
  refine ⟨p, dx, _, rfl, eo, rmf_no _ _ (by decide +kernel) (by decide +kernel), ?_⟩
  walk_at "rd"
  exact ⟨p, r, bxs, N, z, rfl, R, ok, hz, k⟩
/-! #### Room.put -/
def sp_RputX (K : PySem.W.Frag) (A : Adr) : Sp := fun vs H Q E => ∃ (p r : Addr) (bxs : List (List Th)) (N : Nat) (z : Int) (u v : V), vs = [.ref p, .int z, u, v] ∧ RoomAt A.c_Room H p r bxs N ∧ RoomOk bxs N ∧ (∀ k, k < bxs.length → (plT bxs k : Int) ≠ z) ∧ ∀ H', Same H H' → E (.ref A.c_NoBox) none H'
theorem ok_RputX (T : Txt K mg A) : FnOk P w K mg base (L2.CX P w) 5 A.f_Rput A.d_Rput ["self", "place", "field", "thing"] (sp_RputX K A) := by
  refine T.F_Rput.okX sc_Rput (fun vs H Q E h => by obtain ⟨p, r, bxs, N, z, u, v, rfl, R, ok, hz, k⟩ := h; rfl) (fun cdv A' outer s H vs Q E hr h => ⟨_, (pss_cons (ps_expr (pe_meth (pv 0) T.clR T.me_Rneed_box (ok_Rneed_boxX T) (hr.mono (by decide)) T.b_Rneed_box .nil (passes_call (takes_of rfl rfl rfl rfl) fun _ _ _ _ z => z) (pa_cons (pv 1) pa_nil)))
  (pss_cons (ps_if (PW.pt (pw_or (pt_not (pt_val (pe_call (ok_is_whole T) (hr.mono (by decide)) (by rfl) T.m_is_whole T.F_is_whole.kp T.b_is_whole .nil pass0 (pa_cons (pv 2) pa_nil)))) (pw_or1 (pt_not (pt_chain op_leI op_ltI pe_int (pv 2) (pe_call (ok_fields_of T) (hr.mono (by decide)) (by rfl) T.m_fields_of T.F_fields_of.kp T.b_fields_of .nil pass0 (pa_cons (pe_ix (ix_listK (K := K) rfl) (pe_fldK (K := K) rfl (pv 0) rfl) (pv 1) (fun _ _ => rfl)) pa_nil)))))))
  (pss_one ps_never)
  pss_nil)
  (pss_cons (ps_expr (pe_call (ok_need_thing T) (hr.mono (by decide)) (by rfl) T.m_need_thing T.F_need_thing.kp T.b_need_thing .nil pass0 (pa_cons (pv 3) pa_nil)))
  (pss_one (ps_asg (pe_meth (pv 0) T.clR T.me_Rword_of (ok_Rword_of T) (hr.mono (by decide)) T.b_Rword_of .nil pass0 (pa_cons (pv 3) pa_nil)) (pg_sub (pe_fldK (K := K) rfl (pv 0) rfl) (pe_op op_addI (pe_op op_addI (pv 1) pe_int) (pv 2)) set_list)))))), ?_⟩)
  obtain ⟨p, r, bxs, N, z, u, v, rfl, R, ok, hz, k⟩ := h
  obtain ⟨⟨dx, eo⟩, er⟩ := id R
  walk_at "rd"
  refine ⟨p, dx, _, rfl, eo, rmf_no _ _ (by decide +kernel) (by decide +kernel), ?_⟩
  walk_at "rd"
  exact ⟨p, r, bxs, N, z, rfl, R, ok, hz, k⟩
/-! #### Room.made -/
def sp_RmadeX (K : PySem.W.Frag) (A : Adr) : Sp := fun vs H Q E => ∃ (p r l t u : Addr) (bxs : List (List Th)) (N : Nat) (n z : Int), vs = [.ref p, .ref l] ∧ RoomAt A.c_Room H p r bxs N ∧ RoomOk bxs N ∧ H l = some (.lst [.ref t, .ref u]) ∧ H t = some (.tup [.str "number", .int n]) ∧ H u = some (.tup [.str "box", .int z]) ∧
    n.natAbs < 10 ^ 60 ∧ z.natAbs < 10 ^ 60 ∧ (∀ k, k < bxs.length → (plT bxs k : Int) ≠ z) ∧ ∀ H', Same H H' → E (.ref A.c_NoBox) none H'
theorem ok_RmadeX (T : Txt K mg A) : FnOk P w K mg base (L2.CX P w) 5 A.f_Rmade A.d_Rmade ["self", "things"] (sp_RmadeX K A) := by
  refine T.F_Rmade.okX sc_Rmade (fun vs H Q E h => by obtain ⟨p, r, l, t, u, bxs, N, n, z, rfl, R, ok, el, et, eu, hn, hz1, hz, k⟩ := h; rfl) (fun cdv A' outer s H vs Q E hr h => ⟨_, (pss_cons (ps_for (passes_of rfl) rfl (pi_listK (K := K) rfl (pv 1)) (pg_name (i := 2) sc_Rmade.nd rfl (.inl rfl))
  (pss_one (ps_expr (pe_call (ok_need_thingR T) (hr.mono (by decide)) (by rfl) T.m_need_thing T.F_need_thing.kp T.b_need_thing .nil pass0 (pa_cons (pv 2) pa_nil)))))
  (pss_cons (ps_set (i := 3) sc_Rmade.nd rfl (.inl rfl) (pe_op op_cat (pe_lst (pa_cons (pe_call (ok_head_word T) (hr.mono (by decide)) (by rfl) T.m_head_word T.F_head_word.kp T.b_head_word .nil pass0 (pa_cons (pe_callB (call_lenK (K := K) rfl) (by rfl) T.z_len (by decide +kernel) (pa_cons (pv 1) pa_nil)) (pa_cons pe_bl pa_nil))) pa_nil)) (pe_lcX (own := [("thing", 2)]) (g := gName 2) rfl sc_Rmade.nd rfl rfl (takes_of rfl rfl rfl rfl) (pi_listK (K := K) rfl (pv 1)) (blkOk_by (own := [("thing", 2)]) (N := ["self", "things", "thing", "words", "place"]) (sc := defScope s_Rmade) (by decide +kernel)) (fun _ _ _ _ _ => pg_name (i := 2) sc_Rmade.nd rfl (.inl rfl)) (fun _ _ _ _ _ => pts_nil) (fun _ _ _ _ _ _ tk => (pe_methT (pv 0) T.clR T.me_Rword_of (ok_Rword_ofX T) (hr.mono (by decide)) T.b_Rword_of (fun σ => passAt tk σ) (pa_cons (pv 2) pa_nil))))))
  (pss_cons (ps_if (pt_cmpR op_gtI (pe_op op_addI (pe_fldK (K := K) rfl (pv 0) rfl) (pe_callB (call_lenK (K := K) rfl) (by rfl) T.z_len (by decide +kernel) (pa_cons (pv 3) pa_nil))) (pe_callB (call_lenK (K := K) rfl) (by rfl) T.z_len (by decide +kernel) (pa_cons (pe_fldK (K := K) rfl (pv 0) rfl) pa_nil)) (nomark _))
  (pss_one ps_never)
  pss_nil)
  (pss_cons (ps_set (i := 4) sc_Rmade.nd rfl (.inl rfl) (pe_fldK (K := K) rfl (pv 0) rfl))
  (pss_cons (ps_fld (pv 0) (pe_op op_cat (pe_op op_cat (pe_slice (sl_listK (K := K) rfl) (pe_fldK (K := K) rfl (pv 0) rfl) po_none (po_some (pv 4))) (pv 3)) (pe_slice (sl_listK (K := K) rfl) (pe_fldK (K := K) rfl (pv 0) rfl) (po_some (pe_op op_addI (pv 4) (pe_callB (call_lenK (K := K) rfl) (by rfl) T.z_len (by decide +kernel) (pa_cons (pv 3) pa_nil)))) po_none)) rfl)
  (pss_cons (ps_fld (pv 0) (pe_op op_addI (pv 4) (pe_callB (call_lenK (K := K) rfl) (by rfl) T.z_len (by decide +kernel) (pa_cons (pv 3) pa_nil))) rfl)
  (pss_one (ps_ret (pv 4))))))))), ?_⟩)
  obtain ⟨p, r, l, t, u, bxs, N, n, z, rfl, R, ok, el, et, eu, hn, hz1, hz, k⟩ := h
  obtain ⟨⟨dx, eo⟩, er⟩ := id R
  walk_at "rd"
  refine ⟨⟨_, .of el⟩, for_list (K := K) (a := l) (xs := [V.ref t, .ref u]) (fun i σ' H' => ∃ y : Option V, σ' = [some (.ref p), some (.ref l), y, none, none] ∧ Same H H') ⟨none, rfl, Same.refl _⟩ (fun i σ' H' _ ⟨_, _, S⟩ => .of (S _ _ el)) ?_ ?_⟩
  · rintro i x σ' H' hx ⟨y, rfl, S⟩
    match i, hx with
    | 0, hx =>
      cases Option.some.inj (show some (V.ref t) = some x from hx)
      walk_at "rd"
      exact ⟨t, false, n, rfl, S _ _ et, hn, fun H2 s2 => ⟨_, rfl, S.trans s2⟩⟩
    | 1, hx =>
      cases Option.some.inj (show some (V.ref u) = some x from hx)
      walk_at "rd"
      exact ⟨u, true, z, rfl, S _ _ eu, hz1, fun H2 s2 => ⟨_, rfl, S.trans s2⟩⟩
    | i + 2, hx => exact absurd hx (by simp)
  rintro σ' H1 ⟨y, rfl, S⟩
  -- the words
  walk_at "rd"
  refine ⟨l, _, rfl, .inl (.of (S _ _ el)), ?_⟩
  walk_at "rd"
  refine ⟨by show 1 ≤ sizeLine; decide, fun a1 h1 => ?_⟩
  have S1 := fun o => S.trans (same_upd (o := o) h1)
  walk_at "rd"
  refine ⟨⟨_, .of (S1 _ _ _ el)⟩, fun D hD => lc_list (K := K) (a := l) (xs := [V.ref t, .ref u]) (fun i H' => i ≤ 1 ∧ Same H H' ∧ ∃ ws, H' D = some (.lst ws) ∧ ws.length = i) ⟨Nat.zero_le _, (S1 _).trans (same_upd hD), [], upd_same, rfl⟩ (fun i H' _ p => .of (p.2.1 _ _ el)) (fun i x H' hx p => ?_) (fun H2 p => absurd (show 2 ≤ 1 from p.1) (by decide))⟩
  obtain ⟨p1, p2, ws, eD, lw⟩ := p
  have R2 := R.same p2
  match i, hx with
  | 0, hx =>
    cases Option.some.inj (show some (V.ref t) = some x from hx)
    refine ⟨rfl, ?_⟩
    walk_at "rd"
    refine ⟨_, dx, _, rfl, p2 _ _ eo, rmf_no _ _ (by decide +kernel) (by decide +kernel), ?_⟩
    walk_at "rd"
    refine ⟨_, r, t, bxs, N, rfl, R2, ok, .inl ⟨n, p2 _ _ et, ?_⟩⟩
    exact ⟨ws, eD, sz2001 (by omega), Nat.le_refl _, same_mut ((S1 _).free hD) p2, _, upd_same, by simp [lw]⟩
  | 1, hx =>
    cases Option.some.inj (show some (V.ref u) = some x from hx)
    refine ⟨rfl, ?_⟩
    walk_at "rd"
    refine ⟨_, dx, _, rfl, p2 _ _ eo, rmf_no _ _ (by decide +kernel) (by decide +kernel), ?_⟩
    walk_at "rd"
    exact ⟨_, r, u, bxs, N, rfl, R2, ok, .inr ⟨z, p2 _ _ eu, hz, fun H4 s4 => k H4 (p2.trans s4)⟩⟩
  | i + 2, hx => exact absurd hx (by simp)
theorem sl_tupK {X : Cx} {K : PySem.W.Frag} (e : X.K = K) : SlR X (rSlT K) := by subst e; exact sl_tup
/-- a leaf: a number or a text -/
def leafD : V → PyData
  | .int i => .int i
  | .str x => .str x
  | _ => .none
def leafV (v : V) : Prop := (∃ i, v = .int i) ∨ ∃ x, v = .str x ∧ PyData.canLay0 (.str x) = true
theorem dp_leaf {K : PySem.W.Frag} {H : Hp} {v : V} (h : leafV v) : Dp K H v (leafD v) := by
  rcases h with ⟨i, rfl⟩ | ⟨x, rfl, _⟩
  · exact .int i
  · exact .str x
theorem dp_leaves {K : PySem.W.Frag} {H : Hp} : ∀ {xs : List V}, (∀ x ∈ xs, leafV x) → DpAll K H xs (xs.map leafD)
  | [], _ => .nil
  | x :: xs, h => .cons (dp_leaf (h x List.mem_cons_self)) (dp_leaves fun y hy => h y (List.mem_cons_of_mem _ hy))
theorem leaf_lay {v : V} (h : leafV v) : (leafD v).canLay0 = true := by
  rcases h with ⟨i, rfl⟩ | ⟨x, rfl, hx⟩
  · simp [leafD, PyData.canLay0]
  · exact hx
theorem leaves_lay : ∀ {xs : List V}, (∀ x ∈ xs, leafV x) → PyData.canLayAll0 (xs.map leafD) = true
  | [], _ => by simp [PyData.canLayAll0]
  | x :: xs, h => by simp [PyData.canLayAll0, leaf_lay (h x List.mem_cons_self), leaves_lay fun y hy => h y (List.mem_cons_of_mem _ hy)]
theorem leaf_depth (v : V) : (leafD v).depth = 0 := by cases v <;> simp [leafD, PyData.depth]
theorem leaves_depth : ∀ xs : List V, PyData.depthAll (xs.map leafD) = 0
  | [] => by simp [PyData.depthAll]
  | x :: xs => by
    have h1 := leaves_depth xs
    have h2 := leaf_depth x
    simp only [List.map_cons, PyData.depthAll]
    omega
theorem leaf_eqv (v : V) : PyData.eqv (leafD v) (leafD v) = true := by cases v <;> simp [leafD, PyData.eqv]
theorem leaves_eqv : ∀ xs : List V, PyData.eqvAll (xs.map leafD) (xs.map leafD) = true
  | [] => by simp [PyData.eqvAll]
  | x :: xs => by simp [PyData.eqvAll, leaf_eqv x, leaves_eqv xs]
theorem list_shaped {xs : List V} (h : ∀ x ∈ xs, leafV x) : SeqAt.shaped (.list (xs.map leafD)) = true := by
  have h1 := leaves_depth xs
  show (PyData.canLay0 (.list (xs.map leafD)) && decide (PyData.depth (.list (xs.map leafD)) ≤ 64)) = true
  rw [Bool.and_eq_true]
  exact ⟨by simp only [PyData.canLay0]; exact leaves_lay h, decide_eq_true (by simp only [PyData.depth]; omega)⟩
theorem list_eqv (xs : List V) : PyData.eqv (.list (xs.map leafD)) (.list (xs.map leafD)) = true := by
  simp only [PyData.eqv]
  exact leaves_eqv xs
theorem two_shaped {xs ys : List V} (h : ∀ x ∈ xs, leafV x) (h' : ∀ x ∈ ys, leafV x) : SeqAt.shaped (.tuple [.list (xs.map leafD), .list (ys.map leafD)]) = true := by
  have h1 := leaves_depth xs
  have h2 := leaves_depth ys
  show (PyData.canLay0 (.tuple [.list (xs.map leafD), .list (ys.map leafD)]) && decide (PyData.depth (.tuple [.list (xs.map leafD), .list (ys.map leafD)]) ≤ 64)) = true
  rw [Bool.and_eq_true]
  exact ⟨by simp only [PyData.canLay0, PyData.canLayAll0, leaves_lay h, leaves_lay h', Bool.and_self], decide_eq_true (by simp only [PyData.depth, PyData.depthAll]; omega)⟩
theorem two_eqv (xs ys : List V) : PyData.eqv (.tuple [.list (xs.map leafD), .list (ys.map leafD)]) (.tuple [.list (xs.map leafD), .list (ys.map leafD)]) = true := by
  simp only [PyData.eqv, PyData.eqvAll, leaves_eqv, Bool.and_self]
theorem nat_leaf (cs : List Nat) : ∀ x ∈ cs.map natV, leafV x := fun x hx => by
  obtain ⟨c, _, rfl⟩ := List.mem_map.mp hx
  exact .inl ⟨_, rfl⟩
theorem int_leaf (cs : List Int) : ∀ x ∈ cs.map V.int, leafV x := fun x hx => by
  obtain ⟨c, _, rfl⟩ := List.mem_map.mp hx
  exact .inl ⟨_, rfl⟩
def kindV : Th → V
  | .num _ => .str "number"
  | .box _ => .str "box"
def numV : Th → V
  | .num n => .int n
  | .box _ => .int (-1)
theorem kind_leaf (fs : List Th) : ∀ x ∈ fs.map kindV, leafV x := fun x hx => by
  obtain ⟨t, _, rfl⟩ := List.mem_map.mp hx
  cases t with
  | num n => exact .inr ⟨_, rfl, by simp only [PyData.canLay0]; decide +kernel⟩
  | box n => exact .inr ⟨_, rfl, by simp only [PyData.canLay0]; decide +kernel⟩
theorem num_leaf (fs : List Th) : ∀ x ∈ fs.map numV, leafV x := fun x hx => by
  obtain ⟨t, _, rfl⟩ := List.mem_map.mp hx
  cases t with
  | num n => exact .inl ⟨_, rfl⟩
  | box n => exact .inl ⟨_, rfl⟩
theorem kind_pl (bxs fs : List Th) (b : List (List Th)) : (fs.map (toPl b)).map kindV = fs.map kindV := by
  rw [List.map_map]
  exact List.map_congr_left fun t _ => by cases t <;> rfl
theorem numV_pl (fs : List Th) (b : List (List Th)) : (fs.map (toPl b)).map numV = fs.map numV := by
  rw [List.map_map]
  exact List.map_congr_left fun t _ => by cases t <;> rfl
theorem at_kind {th : Th} : atI (thV th) 0 = some (kindV th) := by cases th <;> rfl
theorem dec_kind {th : Th} : decide (kindV th = V.str ("box" : Str)) = (match th with | .num _ => false | .box _ => true) := by
  cases th with
  | num n => exact decide_eq_false fun z => str_nb (V.str.inj z)
  | box k => exact decide_eq_true rfl
/-- what has been walked -/
def WAt (H : Hp) (w : Addr) (rs : List (Nat × List Th)) : Prop := ∃ ws : List Addr, H w = some (.lst (ws.map V.ref)) ∧ ws.length = rs.length ∧ ∀ (i : Nat) (u : Addr) (x : Nat × List Th), ws[i]? = some u → rs[i]? = some x → ∃ a b : Addr, H u = some (.tup [.int (x.1 : Int), .ref a, .ref b]) ∧ H a = some (.lst (x.2.map kindV)) ∧ H b = some (.lst (x.2.map numV)) ∧ a ≠ w ∧ b ≠ w
theorem WAt.same {H H' : Hp} {w : Addr} {rs : List (Nat × List Th)} (h : WAt H w rs) (s : Same H H') : WAt H' w rs := by
  obtain ⟨ws, e, l, k⟩ := h
  refine ⟨ws, s _ _ e, l, fun i u x h1 h2 => ?_⟩
  obtain ⟨a, b, e1, e2, e3, n1, n2⟩ := k i u x h1 h2
  exact ⟨a, b, s _ _ e1, s _ _ e2, s _ _ e3, n1, n2⟩
theorem WAt.but {H H' : Hp} {w p : Addr} {rs : List (Nat × List Th)} (h : WAt H w rs) (s : ∀ b o, H b = some o → b ≠ p → H' b = some o) (C dx : Addr) (m : List (Str × V)) (hp : H p = some (.ins C dx m)) : WAt H' w rs := by
  obtain ⟨ws, e, l, k⟩ := h
  refine ⟨ws, s _ _ e (fun z => by rw [z, hp] at e; cases e), l, fun i u x h1 h2 => ?_⟩
  obtain ⟨a, b, e1, e2, e3, n1, n2⟩ := k i u x h1 h2
  exact ⟨a, b, s _ _ e1 fun z => (by rw [z, hp] at e1; cases e1), s _ _ e2 fun z => (by rw [z, hp] at e2; cases e2), s _ _ e3 fun z => (by rw [z, hp] at e3; cases e3), n1, n2⟩
theorem WAt.push {H : Hp} {w u a b : Addr} {rs : List (Nat × List Th)} {x : Nat × List Th} (h : WAt H w rs) (e1 : H u = some (.tup [.int (x.1 : Int), .ref a, .ref b])) (e2 : H a = some (.lst (x.2.map kindV))) (e3 : H b = some (.lst (x.2.map numV))) (n1 : a ≠ w) (n2 : b ≠ w) :
    ∃ ws : List Addr, H w = some (.lst (ws.map V.ref)) ∧ ws.length = rs.length ∧ WAt (upd H w (.lst (ws.map V.ref ++ [V.ref u]))) w (rs ++ [x]) := by
  obtain ⟨ws, e, l, k⟩ := h
  refine ⟨ws, e, l, ws ++ [u], by rw [upd_same, List.map_append]; rfl, by simp [l], fun i u' x' h1 h2 => ?_⟩
  have q : ∃ a b : Addr, H u' = some (.tup [.int (x'.1 : Int), .ref a, .ref b]) ∧ H a = some (.lst (x'.2.map kindV)) ∧ H b = some (.lst (x'.2.map numV)) ∧ a ≠ w ∧ b ≠ w := by
    rcases snoc_get h1 with h1 | ⟨i1, rfl⟩
    · rcases snoc_get h2 with h2 | ⟨i2, rfl⟩
      · exact k i u' x' h1 h2
      · have := (List.getElem?_eq_some_iff.mp h1).1
        omega
    · rcases snoc_get h2 with h2 | ⟨i2, rfl⟩
      · have := (List.getElem?_eq_some_iff.mp h2).1
        omega
      · exact ⟨a, b, e1, e2, e3, n1, n2⟩
  obtain ⟨a', b', f1, f2, f3, m1, m2⟩ := q
  have nu : u' ≠ w := fun z => by rw [z, e] at f1; cases f1
  exact ⟨a', b', by rw [upd_ne nu]; exact f1, by rw [upd_ne m1]; exact f2, by rw [upd_ne m2]; exact f3, m1, m2⟩
theorem nat_get {cs : List Nat} {j : Nat} {x : V} (hx : (cs.map natV)[j]? = some x) : ∃ h, cs[j]? = some h ∧ x = natV h := by
  rw [List.getElem?_map] at hx
  cases e : cs[j]? with
  | none => rw [e] at hx; cases hx
  | some h => rw [e] at hx; exact ⟨h, rfl, (Option.some.inj hx).symm⟩
theorem dget {H : Hp} {a : Addr} {kvs : List (Key × V)} {x : Nat} {v : V} (e : H a = some (.dK kvs)) (h : valV kvs (Sum.inl (x : Int)) = some v) : DGet H a (.int (x : Int)) (some v) := by
  have q := DGet.k (k := Sum.inl (x : Int)) e
  rw [h] at q
  exact q
/-- the law's boxes: a dict of lists -/
def FdAt (H D : Hp) (f : Addr) (ids : List Nat) (fl : Nat → List Th) : Prop := ∃ kvs : List (Key × V), H f = some (.dK kvs) ∧ ∀ i ∈ ids, ∃ l : Addr, valV kvs (Sum.inl (i : Int)) = some (.ref l) ∧ FieldsAt D l (fl i)
theorem FdAt.same {H H' : Hp} {f : Addr} {ids : List Nat} {fl : Nat → List Th} (h : FdAt H H f ids fl) (s : Same H H') : FdAt H' H' f ids fl := by
  obtain ⟨kvs, e, k⟩ := h
  refine ⟨kvs, s _ _ e, fun i hi => ?_⟩
  obtain ⟨l, el, F⟩ := k i hi
  exact ⟨l, el, F.same s⟩
/-- the law's places: a dict of numbers -/
def PdAt (H : Hp) (q : Addr) (ids : List Nat) (g : Nat → Nat) : Prop := ∃ kvs : List (Key × V), H q = some (.dK kvs) ∧ ∀ i ∈ ids, valV kvs (Sum.inl (i : Int)) = some (natV (g i))
theorem PdAt.same {H H' : Hp} {q : Addr} {ids : List Nat} {g : Nat → Nat} (h : PdAt H q ids g) (s : Same H H') : PdAt H' q ids g := by
  obtain ⟨kvs, e, k⟩ := h
  exact ⟨kvs, s _ _ e, k⟩
/-! #### _law_places_of -/
def sp_l_places_of (K : PySem.W.Frag) : Sp := fun vs H Q _ => ∃ (o f : Addr) (ids : List Nat) (fl : Nat → List Th), vs = [.ref o, .ref f] ∧ H o = some (.lst (ids.map natV)) ∧ FdAt H H f ids fl ∧ ids.Nodup ∧ ids.length ≤ 2000 ∧
    ∀ q H', H q = none → Same H H' → PdAt H' q ids (plI ids fl) → Q (.ref q) H'
theorem ok_l_places_of (T : Txt K mg A) : FnOk P w K mg base CX0 1 A.f_l_places_of A.d_l_places_of ["_law_order", "_law_fields"] (sp_l_places_of K) := by
  refine T.F_l_places_of.ok sc_l_places_of (fun vs H Q E h => by obtain ⟨o, f, ids, fl, rfl, eo, Fd, nd, hl, k⟩ := h; rfl) (fun cdv A' outer s H vs Q E hr h => ⟨_, (pss_cons (ps_set (i := 2) sc_l_places_of.nd rfl (.inl rfl) pe_dnewK)
  (pss_cons (ps_set (i := 3) sc_l_places_of.nd rfl (.inl rfl) pe_int)
  (pss_cons (ps_for PassesOwn.never rfl (pi_listK (K := K) rfl (pv 0)) (pg_name (i := 4) sc_l_places_of.nd rfl (.inl rfl))
  (pss_cons (ps_dput (hu_of hr) (pv 2) (pv 4) (pv 3) rfl)
  (pss_one (ps_set (i := 3) sc_l_places_of.nd rfl (.inl rfl) (pe_op op_addI (pe_op op_addI (pv 3) pe_int) (pe_callB (call_lenK (K := K) rfl) (by rfl) T.z_len (by decide +kernel) (pa_cons (pe_dget (hu_of hr) (pv 1) (pv 4) (fun _ _ => rfl)) pa_nil)))))))
  (pss_one (ps_ret (pv 2)))))), ?_⟩)
  obtain ⟨o, f, ids, fl, rfl, eo, Fd, nd, hl, k⟩ := h
  obtain ⟨kvs, ef, kf⟩ := id Fd
  refine fun q hq => ?_
  walk_at "rd"
  refine ⟨⟨_, .of (same_upd hq _ _ eo)⟩, for_list (K := K) (a := o) (xs := ids.map natV) (fun i σ' H' => ∃ (pk : List (Key × V)) (y4 : Option V), σ' = [some (.ref o), some (.ref f), some (.ref q), some (.int (plT (bxsOf ids fl) i)), y4] ∧ Same H H' ∧ H' q = some (.dK pk) ∧ pk.length ≤ i ∧ ∀ (j x : Nat), j < i → ids[j]? = some x → valV pk (Sum.inl (x : Int)) = some (natV (plT (bxsOf ids fl) j)))
    ⟨[], none, rfl, same_upd hq, upd_same, Nat.le_refl _, fun j x hj => absurd hj (Nat.not_lt_zero _)⟩ (fun i σ' H' _ ⟨_, _, _, s, _⟩ => .of (s _ _ eo)) ?_ ?_⟩
  · rintro i x σ' H' hx ⟨pk, y4, rfl, S, eq, lq, hq2⟩
    obtain ⟨c, hc, rfl⟩ := nat_get hx
    have hi : i < ids.length := (List.getElem?_eq_some_iff.mp hc).1
    obtain ⟨l, el, F⟩ := kf c (List.mem_of_getElem? hc)
    obtain ⟨ts, ets, lts, _⟩ := id F
    walk_at "rd"
    refine ⟨q, _, rfl, DPut.k (k := Sum.inl (c : Int)) eq (sz2001 (by omega)), ?_⟩
    have S1 := fun o => same_mut (o := o) hq S
    walk_at "rd"
    refine ⟨f, .ref l, rfl, dget (S1 _ _ _ ef) el, ?_⟩
    refine ⟨l, _, rfl, .inl (.of (S1 _ _ _ ets)), ?_⟩
    rw [List.length_map, lts]
    walk_at "rd"
    refine ⟨putK pk (Sum.inl (c : Int)) (.int (plT (bxsOf ids fl) i)), some (natV c), ?_, S1 _, upd_same, ?_, fun j x hj hjx => ?_⟩
    · rw [plT_succ (bxsOf_at hc), List.length_map]
      show [_, _, _, some (V.int ((plT (bxsOf ids fl) i : Int) + 1 + ((fl c).length : Int))), _] = [_, _, _, some (V.int ((plT (bxsOf ids fl) i + 1 + (fl c).length : Nat) : Int)), _]
      rw [show ((plT (bxsOf ids fl) i + 1 + (fl c).length : Nat) : Int) = (plT (bxsOf ids fl) i : Int) + 1 + ((fl c).length : Int) by omega]
    · have := length_putK pk (Sum.inl (c : Int)) (.int (plT (bxsOf ids fl) i))
      omega
    · rw [valV_put]
      by_cases z : j = i
      · subst z
        rw [hc] at hjx
        cases Option.some.inj hjx
        rw [if_pos rfl]
        rfl
      · have hne : ¬ (Sum.inl (x : Int) : Key) = Sum.inl (c : Int) := fun e => by
          have e2 : (x : Int) = (c : Int) := Sum.inl.inj e
          have e3 : x = c := by omega
          subst e3
          exact z (nodup_get nd hjx hc)
        rw [if_neg hne]
        exact hq2 j x (by omega) hjx
  · rintro σ' H' ⟨pk, y4, rfl, S, eq, lq, hq2⟩
    rw [List.length_map] at hq2
    walk_at "rd"
    refine k q H' hq S ⟨pk, eq, fun c hc => ?_⟩
    exact hq2 _ c (List.idxOf_lt_length_of_mem hc) (get_idx hc)
/-! #### _law_cells_of -/
def sp_l_cells_of (K : PySem.W.Frag) : Sp := fun vs H Q _ => ∃ (o f : Addr) (ids : List Nat) (fl : Nat → List Th) (N nx : Nat), vs = [.ref o, .ref f, .int N] ∧ H o = some (.lst (ids.map natV)) ∧ FdAt H H f ids fl ∧ StOk ids fl nx ∧ RoomOk (bxsOf ids fl) N ∧
    ∀ q H', H q = none → Same H H' → H' q = some (.lst ((enc (bxsOf ids fl) N).map V.int)) → Q (.ref q) H'
theorem ok_l_cells_of (T : Txt K mg A) : FnOk P w K mg base CX0 2 A.f_l_cells_of A.d_l_cells_of ["_law_order", "_law_fields", "_law_size"] (sp_l_cells_of K) := by
  refine T.F_l_cells_of.ok sc_l_cells_of (fun vs H Q E h => by obtain ⟨o, f, ids, fl, N, nx, rfl, eo, Fd, st, ok, k⟩ := h; rfl) (fun cdv A' outer s H vs Q E hr h => ⟨_, (pss_cons (ps_set (i := 3) sc_l_cells_of.nd rfl (.inl rfl) (pe_call (ok_l_places_of T) (hr.mono (by decide)) (by rfl) T.m__law_places_of T.F_l_places_of.kp T.b_l_places_of .nil pass0 (pa_cons (pv 0) (pa_cons (pv 1) pa_nil))))
  (pss_cons (ps_set (i := 4) sc_l_cells_of.nd rfl (.inl rfl) (pe_lst pa_nil))
  (pss_cons (ps_for PassesOwn.never rfl (pi_listK (K := K) rfl (pv 0)) (pg_name (i := 5) sc_l_cells_of.nd rfl (.inl rfl))
  (pss_cons (ps_expr (pe_bm PySem.F.plainAttrs_list PySem.F.slot_list_append PySem.F.type_list_append mt_append (pv 4) (pa_cons (pe_op op_mulI pe_int (pe_callB (call_lenK (K := K) rfl) (by rfl) T.z_len (by decide +kernel) (pa_cons (pe_dget (hu_of hr) (pv 1) (pv 5) (fun _ _ => rfl)) pa_nil))) pa_nil)))
  (pss_one (ps_for PassesOwn.never rfl (pi_listK (K := K) rfl (pe_dget (hu_of hr) (pv 1) (pv 5) (fun _ _ => rfl))) (pg_name (i := 6) sc_l_cells_of.nd rfl (.inl rfl))
  (pss_one (ps_if (pt_cmpR op_eq (pe_ix (ix_tupK (K := K) rfl) (pv 6) pe_int (fun _ _ => rfl)) pe_str (nomark _))
  (pss_one (ps_expr (pe_bm PySem.F.plainAttrs_list PySem.F.slot_list_append PySem.F.type_list_append mt_append (pv 4) (pa_cons (pe_op op_mulI pe_int (pe_ix (ix_tupK (K := K) rfl) (pv 6) pe_int (fun _ _ => rfl))) pa_nil))))
  (pss_one (ps_expr (pe_bm PySem.F.plainAttrs_list PySem.F.slot_list_append PySem.F.type_list_append mt_append (pv 4) (pa_cons (pe_op op_addI (pe_op op_mulI pe_int (pe_dget (hu_of hr) (pv 3) (pe_ix (ix_tupK (K := K) rfl) (pv 6) pe_int (fun _ _ => rfl)) (fun _ _ => rfl))) pe_int) pa_nil))))))))))
  (pss_one (ps_ret (pe_op op_cat (pv 4) (pe_op op_rep (pe_lst (pa_cons pe_int pa_nil)) (pe_op op_subI (pv 2) (pe_callB (call_lenK (K := K) rfl) (by rfl) T.z_len (by decide +kernel) (pa_cons (pv 4) pa_nil)))))))))), ?_⟩)
  obtain ⟨o, f, ids, fl, N, nx, rfl, eo, Fd, st, ok, k⟩ := h
  have hlen := len_le_size (bxsOf ids fl)
  rw [bxsOf_len] at hlen
  have hsz := ok.sz
  have h400 := ok.le
  walk_at "rd"
  refine ⟨o, f, ids, fl, rfl, eo, Fd, st.nd, by omega, fun g H1 hg s1 Pg => ?_⟩
  replace eo := s1 _ _ eo
  replace Fd := Fd.same s1
  obtain ⟨kvs, ef, kf⟩ := id Fd
  obtain ⟨gvs, eg, kg⟩ := id Pg
  walk_at "rd"
  refine ⟨Nat.zero_le _, fun p hp => ?_⟩
  walk_at "rd"
  refine ⟨⟨_, .of (same_upd hp _ _ eo)⟩, for_list (K := K) (a := o) (xs := ids.map natV) (fun i σ' H' => ∃ y5 y6 : Option V, σ' = [some (.ref o), some (.ref f), some (.int N), some (.ref g), some (.ref p), y5, y6] ∧ Same H1 H' ∧ H' p = some (.lst ((rowT (pg (bxsOf ids fl)) ((bxsOf ids fl).take i)).map V.int)))
    ⟨none, none, rfl, same_upd hp, upd_same⟩ (fun i σ' H' _ ⟨_, _, _, s, _⟩ => .of (s _ _ eo)) ?_ ?_⟩
  · rintro i x σ' H' hx ⟨y5, y6, rfl, S, ep⟩
    obtain ⟨c, hc, rfl⟩ := nat_get hx
    have hcm := List.mem_of_getElem? hc
    have hi : i < ids.length := (List.getElem?_eq_some_iff.mp hc).1
    have ef2 := bxsOf_at (fl := fl) hc
    have hsf := sizeT_field ef2
    rw [List.length_map] at hsf
    have lrow := rowT_len (pg (bxsOf ids fl)) ((bxsOf ids fl).take i)
    have hpl : sizeT ((bxsOf ids fl).take i) = plT (bxsOf ids fl) i := rfl
    obtain ⟨l, el, F⟩ := kf c hcm
    obtain ⟨ts, ets, lts, kt⟩ := id F
    walk_at "rd"
    refine ⟨.inl ⟨rfl, _, .of ep⟩, ?_⟩
    walk_at "rd"
    refine ⟨f, .ref l, rfl, dget (S _ _ ef) el, ?_⟩
    refine ⟨l, _, rfl, .inl (.of (S l _ ets)), ?_⟩
    rw [List.length_map, lts]
    walk_at "rd"
    refine ⟨p, _, _, rfl, rfl, ep, sz2001 (by rw [List.length_map, lrow]; omega), ?_⟩
    have S1 := fun o => same_mut (o := o) hp S
    walk_at "rd"
    refine ⟨f, .ref l, rfl, dget (S1 _ _ _ ef) el, ?_⟩
    walk_at "rd"
    refine ⟨⟨_, .of (S1 _ l _ ets)⟩, for_list (K := K) (a := l) (xs := ts.map V.ref) (fun j σ2 H2 => ∃ y6 : Option V, σ2 = [some (.ref o), some (.ref f), some (.int N), some (.ref g), some (.ref p), some (natV c), y6] ∧ Same H1 H2 ∧ H2 p = some (.lst ((rowT (pg (bxsOf ids fl)) ((bxsOf ids fl).take i) ++ (4 * ((fl c).length : Int)) :: (((fl c).map (ixT ids)).take j).map (wordT (pg (bxsOf ids fl)))).map V.int)))
      ⟨y6, rfl, S1 _, by rw [upd_same, List.map_append]; rfl⟩ (fun i σ' H' _ ⟨_, _, s, _⟩ => .of (s l _ ets)) ?_ ?_⟩
    · rintro j x σ2 H2 hx ⟨y6, rfl, S2, ep2⟩
      obtain ⟨t, et, rfl⟩ := ref_get hx
      have hj : j < (fl c).length := by rw [← lts]; exact (List.getElem?_eq_some_iff.mp et).1
      have eth := List.getElem?_eq_getElem hj
      have htup := S2 t _ (kt j t _ et eth)
      have hmem := List.mem_of_getElem? eth
      have e2 : ((fl c).map (ixT ids))[j]? = some (ixT ids (fl c)[j]) := by
        rw [List.getElem?_map, eth]
        rfl
      have fin : ∀ x : Int, x = wordT (pg (bxsOf ids fl)) (ixT ids (fl c)[j]) → ∀ H3 : Hp, H3 p = some (.lst (((rowT (pg (bxsOf ids fl)) ((bxsOf ids fl).take i) ++ (4 * ((fl c).length : Int)) :: (((fl c).map (ixT ids)).take j).map (wordT (pg (bxsOf ids fl)))).map V.int) ++ [V.int x])) →
          H3 p = some (.lst ((rowT (pg (bxsOf ids fl)) ((bxsOf ids fl).take i) ++ (4 * ((fl c).length : Int)) :: (((fl c).map (ixT ids)).take (j + 1)).map (wordT (pg (bxsOf ids fl)))).map V.int)) := fun x ex H3 e3 => by
        rw [e3, List.take_add_one, e2, Option.toList_some, List.map_append (l₁ := ((fl c).map (ixT ids)).take j), ex]
        simp
      have lz : ((rowT (pg (bxsOf ids fl)) ((bxsOf ids fl).take i) ++ (4 * ((fl c).length : Int)) :: (((fl c).map (ixT ids)).take j).map (wordT (pg (bxsOf ids fl)))).map V.int).length ≤ 100000 := by
        rw [List.length_map, List.length_append, lrow, List.length_cons, List.length_map, List.length_take, List.length_map]
        omega
      walk_at "rd"
      refine ⟨t, _, _, _, rfl, rfl, .of htup, at_tup0, ?_⟩
      walk_at "rd"
      rw [eq_num]
      revert fin hmem htup
      generalize (fl c)[j] = th
      intro htup hmem fin
      cases th with
      | num m =>
        refine ifT rfl ?_
        walk_at "rd"
        refine ⟨.inl ⟨rfl, _, .of ep2⟩, ?_⟩
        walk_at "rd"
        refine ⟨t, _, _, _, rfl, rfl, .of htup, at_num, ?_⟩
        walk_at "rd"
        refine ⟨p, _, _, rfl, rfl, ep2, sz2001 lz, ?_⟩
        exact ⟨_, rfl, same_mut hp S2, fin (2 * m) rfl _ upd_same⟩
      | box m =>
        refine ifF rfl ?_
        have hm := st.cl c hcm m hmem
        walk_at "rd"
        refine ⟨.inl ⟨rfl, _, .of ep2⟩, ?_⟩
        walk_at "rd"
        refine ⟨t, _, _, _, rfl, rfl, .of htup, at_box, ?_⟩
        refine ⟨g, natV (plI ids fl m), rfl, dget (S2 _ _ eg) (kg m hm), ?_⟩
        walk_at "rd"
        refine ⟨p, _, _, rfl, rfl, ep2, sz2001 lz, ?_⟩
        exact ⟨_, rfl, same_mut hp S2, fin (2 * (plI ids fl m : Int) + 1) rfl _ upd_same⟩
    · rintro σ2 H2 ⟨y6, rfl, S2, ep2⟩
      refine ⟨_, _, rfl, S2, ?_⟩
      rw [List.length_map, lts, List.take_of_length_le (l := (fl c).map (ixT ids)) (by rw [List.length_map]; exact Nat.le_refl _)] at ep2
      rw [rowT_snoc _ ef2, List.length_map]
      exact ep2
  · rintro σ' H' ⟨y5, y6, rfl, S, ep⟩
    rw [List.length_map, List.take_of_length_le (by rw [bxsOf_len]; exact Nat.le_refl _)] at ep
    walk_at "rd"
    refine ⟨by show 1 ≤ sizeLine; decide, fun q hq => ?_⟩
    have npq : p ≠ q := ne_of_none ep hq
    walk_at "rd"
    refine ⟨p, _, rfl, .inl (.of (by rw [upd_ne npq]; exact ep)), ?_⟩
    rw [List.length_map, rowT_len]
    walk_at "rd"
    obtain ⟨n, en⟩ : ∃ n : Nat, n = N - sizeT (bxsOf ids fl) := ⟨_, rfl⟩
    rw [show (N : Int) - (sizeT (bxsOf ids fl) : Int) = (n : Int) by omega]
    refine ⟨q, n, _, rfl, rfl, upd_same, by omega, by omega, sz2000 (by rw [Int.toNat_natCast]; show 1 * n ≤ _; omega), fun r hr => ?_⟩
    have npr : p ≠ r := fun z => by rw [← z, upd_ne npq, ep] at hr; cases hr
    rw [Int.toNat_natCast, List.flatten_replicate_singleton]
    refine ⟨p, r, _, _, rfl, rfl, by rw [upd_ne npr, upd_ne npq]; exact ep, upd_same, sz2000 (by rw [List.length_map, rowT_len, List.length_replicate]; omega), fun u hu => ?_⟩
    refine k u _ (s1.free (S.free (((same_upd hq).trans (same_upd hr)).free hu))) ((s1.trans S).trans ((same_upd hq).trans ((same_upd hr).trans (same_upd hu)))) ?_
    rw [upd_same]
    unfold enc
    rw [List.map_append, List.map_replicate, en]
theorem num_small (s : Int) : (num s).natAbs < 10 ^ 60 := by
  unfold num
  have b : (10 : Int) ^ 60 = ((10 ^ 60 : Nat) : Int) := by norm_cast
  split
  · have h1 := Int.emod_nonneg (s / 5) (show (41 : Int) ≠ 0 by decide)
    have h2 := Int.emod_lt_of_pos (s / 5) (show (0 : Int) < 41 by decide)
    have : (41 : Nat) < 10 ^ 60 := by decide
    omega
  · split
    · obtain ⟨j, ej, hj⟩ : ∃ j : Nat, (s / 5 % 4).toNat = j ∧ j < 4 := ⟨_, rfl, by omega⟩
      rw [ej]
      match j, hj with
      | 0, _ => decide
      | 1, _ => decide
      | 2, _ => decide
      | 3, _ => decide
    · rw [b]
      have hB : 0 < (10 ^ 60 : Nat) := by decide
      revert hB
      generalize (10 ^ 60 : Nat) = B
      intro hB
      have h1 := Int.emod_nonneg (s / 5 * 48271 ^ 12) (show (2 * (B : Int) - 1) ≠ 0 by omega)
      have h2 := Int.emod_lt_of_pos (s / 5 * 48271 ^ 12) (show (0 : Int) < (2 * (B : Int) - 1) by omega)
      omega
/-- the numbers in a thing are small -/
def NumOk : Th → Prop
  | .num n => n.natAbs < 10 ^ 60
  | .box _ => True
/-! #### _law_thing -/
def sp_l_thing (K : PySem.W.Frag) : Sp := fun vs H Q _ => ∃ (s : Int) (o : Addr) (ids : List Nat), vs = [.int s, .ref o] ∧ H o = some (.lst (ids.map natV)) ∧ 0 < ids.length ∧ ids.length ≤ 2000 ∧ Builtin.Int.intBits s ≤ 2000000 ∧
    ∀ t H' th, H t = none → Same H H' → H' t = some (.tup (thV th)) → NumOk th → (∀ k, th = .box k → k ∈ ids) → Q (.ref t) H'
theorem ok_l_thing (T : Txt K mg A) : FnOk P w K mg base CX0 2 A.f_l_thing A.d_l_thing ["_law_seed", "_law_order"] (sp_l_thing K) := by
  refine T.F_l_thing.ok sc_l_thing (fun vs H Q E h => by obtain ⟨s, o, ids, rfl, eo, h0, hl, hb, k⟩ := h; rfl) (fun cdv A' outer s H vs Q E hr h => ⟨_, (pss_cons (ps_if (pt_cmpR op_eq (pe_op op_modI (pv 0) pe_int) pe_int (nomark _))
  (pss_one (ps_ret (pe_tup (pa_cons pe_str (pa_cons (pe_call (ok_l_number T) (hr.mono (by decide)) (by rfl) T.m__law_number T.F_l_number.kp T.b_l_number .nil pass0 (pa_cons (pe_op op_divI (pv 0) pe_int) pa_nil)) pa_nil)))))
  pss_nil)
  (pss_one (ps_ret (pe_tup (pa_cons pe_str (pa_cons (pe_ix (ix_listK (K := K) rfl) (pv 1) (pe_op op_modI (pe_op op_divI (pv 0) pe_int) (pe_callB (call_lenK (K := K) rfl) (by rfl) T.z_len (by decide +kernel) (pa_cons (pv 1) pa_nil))) (fun _ _ => rfl)) pa_nil)))))), ?_⟩)
  obtain ⟨s, o, ids, rfl, eo, h0, hl, hb, k⟩ := h
  walk_at "rd"
  refine ite2 (fun _ => ?_) (fun _ => ?_)
  · walk_at "rd"
    refine ⟨bits_div hb, fun H1 s1 => ?_⟩
    refine ⟨by show 2 ≤ sizeLine; decide, fun t ht => ?_⟩
    exact k t _ (.num (num (s / 3))) (s1.free ht) (s1.trans (same_upd ht)) upd_same (num_small _) fun _ z => nomatch z
  · walk_at "rd"
    refine ⟨o, _, rfl, .inl (.of eo), ?_⟩
    rw [List.length_map]
    walk_at "rd"
    obtain ⟨c, ec, hc⟩ := mod_nat (n := ids.length) (s / 3) h0
    refine ⟨by omega, ?_⟩
    rw [ec]
    have g := List.getElem?_eq_getElem hc
    refine ⟨o, _, (c : Int), natV ids[c], rfl, rfl, .of eo, atI_nat (by rw [List.getElem?_map, g]; rfl), ?_⟩
    refine ⟨by show 2 ≤ sizeLine; decide, fun t ht => ?_⟩
    exact k t _ (.box ids[c]) ht (same_upd ht) upd_same trivial fun k z => by cases z; exact List.mem_of_getElem? g
/-! #### _law_handed -/
def sp_l_handed (K : PySem.W.Frag) : Sp := fun vs H Q _ => ∃ (t q : Addr) (th : Th) (ids : List Nat) (g : Nat → Nat), vs = [.ref t, .ref q] ∧ H t = some (.tup (thV th)) ∧ PdAt H q ids g ∧ (∀ k, th = .box k → k ∈ ids) ∧
    ∀ t' H', Same H H' → H' t' = some (.tup (thV (handT g th))) → Q (.ref t') H'
theorem ok_l_handed (T : Txt K mg A) : FnOk P w K mg base CX0 1 A.f_l_handed A.d_l_handed ["_law_thing_here", "_law_places"] (sp_l_handed K) := by
  refine T.F_l_handed.ok sc_l_handed (fun vs H Q E h => by obtain ⟨t, q, th, ids, g, rfl, ht, Pq, hm, k⟩ := h; rfl) (fun cdv A' outer s H vs Q E hr h => ⟨_, (pss_cons (ps_if (pt_cmpR op_eq (pe_ix (ix_tupK (K := K) rfl) (pv 0) pe_int (fun _ _ => rfl)) pe_str (nomark _))
  (pss_one (ps_ret (pv 0)))
  pss_nil)
  (pss_one (ps_ret (pe_tup (pa_cons pe_str (pa_cons (pe_dget (hu_of hr) (pv 1) (pe_ix (ix_tupK (K := K) rfl) (pv 0) pe_int (fun _ _ => rfl)) (fun _ _ => rfl)) pa_nil)))))), ?_⟩)
  obtain ⟨t, q, th, ids, g, rfl, ht, Pq, hm, k⟩ := h
  obtain ⟨kvs, eq, kq⟩ := id Pq
  walk_at "rd"
  refine ⟨t, _, _, _, rfl, rfl, .of ht, at_tup0, ?_⟩
  walk_at "rd"
  rw [eq_num]
  cases th with
  | num m =>
    refine ifT rfl ?_
    walk_at "rd"
    exact k t H (Same.refl _) ht
  | box m =>
    refine ifF rfl ?_
    walk_at "rd"
    refine ⟨t, _, _, _, rfl, rfl, .of ht, at_box, ?_⟩
    refine ⟨q, natV (g m), rfl, dget eq (kq m (hm m rfl)), ?_⟩
    refine ⟨by show 2 ≤ sizeLine; decide, fun u hu => ?_⟩
    exact k u _ (same_upd hu) upd_same
/-! #### _law_come_to -/
def sp_l_come_to (K : PySem.W.Frag) : Sp := fun vs H Q _ => ∃ (o f : Addr) (ids : List Nat) (fl : Nat → List Th) (nx : Nat), vs = [.ref o, .ref f] ∧ H o = some (.lst (ids.map natV)) ∧ FdAt H H f ids fl ∧ StOk ids fl nx ∧ ids.length ≤ 2000 ∧
    ∀ q H', H q = none → Same H H' → H' q = some (.lst ((kin ids fl).map natV)) → Q (.ref q) H'
theorem ok_l_come_to (T : Txt K mg A) : FnOk P w K mg base CX0 1 A.f_l_come_to A.d_l_come_to ["_law_order", "_law_fields"] (sp_l_come_to K) := by
  refine T.F_l_come_to.ok sc_l_come_to (fun vs H Q E h => by obtain ⟨o, f, ids, fl, nx, rfl, eo, Fd, st, hl, k⟩ := h; rfl) (fun cdv A' outer s H vs Q E hr h => ⟨_, (pss_cons (ps_set (i := 2) sc_l_come_to.nd rfl (.inr rfl) (pe_lst (pa_cons pe_int pa_nil)))
  (pss_cons (ps_for PassesOwn.never rfl (pi_range1 rfl T.z_range (pa_cons (pe_callB (call_lenK (K := K) rfl) (by rfl) T.z_len (by decide +kernel) (pa_cons (pv 0) pa_nil)) pa_nil)) (pg_name (i := 3) sc_l_come_to.nd rfl (.inl rfl))
  (pss_one (ps_if (pt_cmpR op_ltI (pv 3) (pe_callB (call_lenK (K := K) rfl) (by rfl) T.z_len (by decide +kernel) (pa_cons (pv 2) pa_nil)) (nomark _))
  (pss_one (ps_for PassesOwn.never rfl (pi_listK (K := K) rfl (pe_dget (hu_of hr) (pv 1) (pe_ix (ix_listK (K := K) rfl) (pv 2) (pv 3) (fun _ _ => rfl)) (fun _ _ => rfl))) (pg_name (i := 4) sc_l_come_to.nd rfl (.inl rfl))
  (pss_one (ps_if (PW.pt (pw_and (pt_cmpR op_eq (pe_ix (ix_tupK (K := K) rfl) (pv 4) pe_int (fun _ _ => rfl)) pe_str (nomark _)) (pw_and1 (pt_cmpR (op_notInK (K := K) rfl) (pe_ix (ix_tupK (K := K) rfl) (pv 4) pe_int (fun _ _ => rfl)) (pv 2) (by rfl)))))
  (pss_one (ps_set (i := 2) sc_l_come_to.nd rfl (.inr rfl) (pe_op op_cat (pv 2) (pe_lst (pa_cons (pe_ix (ix_tupK (K := K) rfl) (pv 4) pe_int (fun _ _ => rfl)) pa_nil)))))
  pss_nil))))
  pss_nil)))
  (pss_one (ps_ret (pe_lc (own := [("_law_one", 5)]) (g := gName 5) rfl sc_l_come_to.nd (pi_listK (K := K) rfl (pv 0)) (blkOk_by (own := [("_law_one", 5)]) (N := ["_law_order", "_law_fields", "_law_found", "_law_turn", "_law_thing_here", "_law_one"]) (sc := defScope s_l_come_to) (by decide +kernel)) (fun _ _ _ _ _ => pg_name (i := 5) sc_l_come_to.nd rfl (.inl rfl)) (fun _ _ _ _ _ => (pts_one (pt_cmpR (op_inK (K := K) rfl) (pv 5) (pv 2) (by rfl)))) (fun _ _ _ _ _ => (pv 5))))))), ?_⟩)
  obtain ⟨o, f, ids, fl, nx, rfl, eo, Fd, st, hl, k⟩ := h
  obtain ⟨kvs, ef, kf⟩ := id Fd
  refine ⟨by show 1 ≤ sizeLine; decide, fun f0 hf0 => ?_⟩
  walk_at "rd"
  refine ⟨o, _, rfl, .inl (.of (same_upd hf0 _ _ eo)), ?_⟩
  walk_at "rd"
  rw [List.length_map]
  refine ⟨by omega, by omega, ?_⟩
  refine for_range (lo := 0) (n := _) (fun t σ' H' => ∃ (F : List Nat) (fa : Addr) (y3 y4 : Option V), σ' = [some (.ref o), some (.ref f), some (.ref fa), y3, y4, none] ∧ Same H H' ∧ H' fa = some (.lst (F.map natV)) ∧ Bj fl F t)
    ⟨[0], f0, none, none, rfl, same_upd hf0, upd_same, .start⟩ ?_ ?_
  · rintro t σ' H' ht ⟨F, fa, y3, y4, rfl, S, efa, bf⟩
    rw [show (0 : Int) + (t : Int) = (t : Int) from Int.zero_add _]
    have lF : F.length ≤ ids.length := bf.len st
    walk_at "rd"
    refine ⟨fa, _, rfl, .inl (.of efa), ?_⟩
    rw [List.length_map]
    walk_at "rd"
    by_cases c : t < F.length
    · refine ifT (decide_eq_true (by omega)) ?_
      obtain ⟨k0, ek0⟩ : ∃ k0, F[t]? = some k0 := ⟨F[t], List.getElem?_eq_getElem c⟩
      have rk0 := bf.re k0 (List.mem_of_getElem? ek0)
      have hk0 := rk0.mem st
      obtain ⟨l, el, Fl⟩ := kf k0 hk0
      obtain ⟨ts, ets, lts, kt⟩ := id Fl
      walk_at "rd"
      refine ⟨fa, _, _, natV k0, rfl, rfl, .of efa, atI_nat (by rw [List.getElem?_map, ek0]; rfl), ?_⟩
      refine ⟨f, .ref l, rfl, dget (S _ _ ef) el, ?_⟩
      walk_at "rd"
      refine ⟨⟨_, .of (S l _ ets)⟩, for_list (K := K) (a := l) (xs := ts.map V.ref) (fun j σ2 H2 => ∃ (F : List Nat) (fa : Addr) (y4 : Option V), σ2 = [some (.ref o), some (.ref f), some (.ref fa), some (.int t), y4, none] ∧ Same H H2 ∧ H2 fa = some (.lst (F.map natV)) ∧ Bj fl F t ∧ F[t]? = some k0 ∧ ∀ i k, i < j → (fl k0)[i]? = some (.box k) → k ∈ F)
        ⟨F, fa, y4, rfl, S, efa, bf, ek0, fun i k hi => absurd hi (Nat.not_lt_zero _)⟩ (fun i σ' H' _ ⟨_, _, _, _, s, _⟩ => .of (s l _ ets)) ?_ ?_⟩
      · clear lF c ek0 efa bf S y4 y3 fa F H'
        rintro j x σ2 H2 hx ⟨F, fa, y4, rfl, S2, efa, bf, ek0, hF⟩
        have lF : F.length ≤ ids.length := bf.len st
        obtain ⟨tt, et, rfl⟩ := ref_get hx
        have hj : j < (fl k0).length := by rw [← lts]; exact (List.getElem?_eq_some_iff.mp et).1
        have eth := List.getElem?_eq_getElem hj
        have htup := S2 tt _ (kt j tt _ et eth)
        have hmem := List.mem_of_getElem? eth
        walk_at "rd"
        refine ⟨tt, _, _, _, rfl, rfl, .of htup, at_tup0, ?_⟩
        walk_at "rd"
        rw [eq_box]
        revert hmem htup eth
        generalize (fl k0)[j] = th
        intro eth htup hmem
        cases th with
        | num m =>
          refine ifF rfl ?_
          refine ⟨F, fa, _, rfl, S2, efa, bf, ek0, fun i k hi e => ?_⟩
          by_cases z : i < j
          · exact hF i k z e
          · have : i = j := by omega
            subst this
            rw [eth] at e
            cases e
        | box m =>
          refine ifT rfl ?_
          walk_at "rd"
          refine ⟨tt, _, _, _, rfl, rfl, .of htup, at_box, ?_⟩
          walk_at "rd"
          refine ⟨fa, _, rfl, .inl (.of efa), rfl, flat_nats _, ?_⟩
          walk_at "rd"
          by_cases hm : m ∈ F
          · refine ifF ?_ ⟨F, fa, _, rfl, S2, efa, bf, ek0, fun i k hi e => ?_⟩
            · show (!inV (.int (m : Int)) (F.map natV)) = false
              rw [in_nats, decide_eq_true hm]
              rfl
            · by_cases z : i < j
              · exact hF i k z e
              · have : i = j := by omega
                subst this
                rw [eth] at e
                cases e
                exact hm
          · refine ifT ?_ ?_
            · show (!inV (.int (m : Int)) (F.map natV)) = true
              rw [in_nats, decide_eq_false hm]
              rfl
            walk_at "rd"
            refine ⟨tt, _, _, _, rfl, rfl, .of htup, at_box, ?_⟩
            refine ⟨by show 1 ≤ sizeLine; decide, fun q hq => ?_⟩
            have nfq : fa ≠ q := ne_of_none efa hq
            refine ⟨fa, q, _, _, rfl, rfl, by rw [upd_ne nfq]; exact efa, upd_same, sz2000 (by rw [List.length_map]; show _ + 1 ≤ _; omega), fun r hr => ?_⟩
            have ht' : t < F.length := (List.getElem?_eq_some_iff.mp ek0).1
            refine ⟨F ++ [m], r, _, rfl, S2.trans ((same_upd hq).trans (same_upd hr)), by rw [upd_same, List.map_append]; rfl, bf.add (by omega) hm (.step (bf.re k0 (List.mem_of_getElem? ek0)) hmem), by rw [List.getElem?_append_left ht']; exact ek0, fun i k hi e => ?_⟩
            by_cases z : i < j
            · exact List.mem_append_left _ (hF i k z e)
            · have : i = j := by omega
              subst this
              rw [eth] at e
              cases e
              simp
      · rintro σ2 H2 ⟨F, fa, y4, rfl, S2, efa, bf, ek0, hF⟩
        rw [List.length_map, lts] at hF
        refine ⟨F, fa, _, _, rfl, S2, efa, bf.next ek0 fun k hk => ?_⟩
        obtain ⟨i, hi, ei⟩ := List.mem_iff_getElem.mp hk
        exact hF i k hi (by rw [List.getElem?_eq_getElem hi, ei])
    · refine ifF (decide_eq_false (by omega)) ⟨F, fa, _, _, rfl, S, efa, bf.skip (by omega)⟩
  · rintro σ' H' ⟨F, fa, y3, y4, rfl, S, efa, bf⟩
    rw [Int.toNat_natCast] at bf
    walk_at "rd"
    refine ⟨⟨_, .of (S _ _ eo)⟩, fun D hD => lc_list (K := K) (a := o) (xs := ids.map natV) (fun j H2 => Same H' H2 ∧ H2 D = some (.lst (((ids.take j).filter (fun x => decide (x ∈ F))).map natV))) ⟨same_upd hD, upd_same⟩ (fun j H2 _ p => .of (p.1 _ _ (S _ _ eo))) (fun j x H2 hx p => ?_) (fun H2 p => ?_)⟩
    · obtain ⟨c, hc, rfl⟩ := nat_get hx
      have hj := (List.getElem?_eq_some_iff.mp hc).1
      refine ⟨rfl, ?_⟩
      walk_at "rd"
      refine ⟨fa, _, rfl, .inl (.of (p.1 _ _ efa)), rfl, flat_nats _, ?_⟩
      walk_at "rd"
      rw [List.take_add_one, hc, Option.toList_some, List.filter_append]
      by_cases hm : c ∈ F
      · refine ifT ?_ ?_
        · show inV (.int (c : Int)) (F.map natV) = true
          rw [in_nats, decide_eq_true hm]
        walk_at "rd"
        refine ⟨_, p.2, sz2001 (by rw [List.length_map]; have := List.length_filter_le (fun x => decide (x ∈ F)) (ids.take j); rw [List.length_take] at this; omega), same_mut hD p.1, ?_⟩
        rw [upd_same, List.filter_cons_of_pos (p := fun x => decide (x ∈ F)) (decide_eq_true hm), List.filter_nil, List.map_append]
        rfl
      · refine ifF ?_ ?_
        · show inV (.int (c : Int)) (F.map natV) = false
          rw [in_nats, decide_eq_false hm]
        rw [List.filter_cons_of_neg (p := fun x => decide (x ∈ F)) (by rw [decide_eq_false hm]; exact Bool.false_ne_true), List.filter_nil, List.append_nil]
        exact p
    obtain ⟨p1, p2⟩ := p
    rw [List.length_map, List.take_length, kin_of st bf] at p2
    exact k D _ (S.free hD) (S.trans p1) p2
/-! #### _law_many -/
def sp_l_many (K : PySem.W.Frag) : Sp := fun vs H Q _ => ∃ c s : Int, vs = [.int c, .int s] ∧ ∀ m : Nat, m ≤ 400 → Q (.int m) H
theorem ok_l_many (T : Txt K mg A) : FnOk P w K mg base CX0 1 A.f_l_many A.d_l_many ["_law_cell", "_law_seed"] (sp_l_many K) := by
  refine T.F_l_many.ok sc_l_many (fun vs H Q E h => by obtain ⟨c, s, rfl, k⟩ := h; rfl) (fun cdv A' outer s H vs Q E hr h => ⟨_, (pss_cons (ps_if (PW.pt (pw_and (pt_cmpR op_eq (pe_op op_modI (pv 0) pe_int) pe_int (nomark _)) (pw_and1 (pt_cmpR op_eq (pe_op op_modI (pe_op op_divI (pv 1) pe_int) pe_int) pe_int (nomark _)))))
  (pss_one (ps_ret (pe_op op_modI (pv 1) pe_int)))
  pss_nil)
  (pss_cons (ps_if (pt_cmpR op_eq (pe_op op_modI (pv 0) pe_int) pe_int (nomark _))
  (pss_one (ps_ret (pe_op op_modI (pv 1) pe_int)))
  pss_nil)
  (pss_one (ps_ret (pe_op op_modI (pv 1) pe_int))))), ?_⟩)
  obtain ⟨c, s, rfl, k⟩ := h
  obtain ⟨m1, e1, h1⟩ := mod_nat (n := 390) s (by decide)
  obtain ⟨m2, e2, h2⟩ := mod_nat (n := 30) s (by decide)
  obtain ⟨m3, e3, h3⟩ := mod_nat (n := 5) s (by decide)
  walk_at "rd"
  refine ite2 (fun _ => ?_) (fun _ => ?_)
  · walk_at "rd"
    refine ite2 (fun _ => ?_) (fun _ => ?_)
    · walk_at "rd"
      rw [show s % 390 = (m1 : Int) from e1]
      exact k _ (by omega)
    · walk_at "rd"
      refine ite2 (fun _ => ?_) (fun _ => ?_)
      · walk_at "rd"
        rw [show s % 30 = (m2 : Int) from e2]
        exact k _ (by omega)
      · walk_at "rd"
        rw [show s % 5 = (m3 : Int) from e3]
        exact k _ (by omega)
  · walk_at "rd"
    refine ite2 (fun _ => ?_) (fun _ => ?_)
    · walk_at "rd"
      rw [show s % 30 = (m2 : Int) from e2]
      exact k _ (by omega)
    · walk_at "rd"
      rw [show s % 5 = (m3 : Int) from e3]
      exact k _ (by omega)
/-- a heap without the objects that change -/
def fz (M : List Addr) (H : Hp) : Hp := fun b => if b ∈ M then none else H b
theorem fz_out {M : List Addr} {H : Hp} {b : Addr} (h : b ∉ M) : fz M H b = H b := if_neg h
theorem fz_in {M : List Addr} {H : Hp} {b : Addr} (h : b ∈ M) : fz M H b = none := if_pos h
theorem fz_some {M : List Addr} {H : Hp} {b : Addr} {x : HO} (h : fz M H b = some x) : b ∉ M ∧ H b = some x := by
  by_cases z : b ∈ M
  · rw [fz_in z] at h
    cases h
  · rw [fz_out z] at h
    exact ⟨z, h⟩
theorem fz_sub {M : List Addr} {H : Hp} : Same (fz M H) H := fun _ _ e => (fz_some e).2
theorem fz_step {M M' : List Addr} {H H' : Hp} (h : ∀ b x, H b = some x → b ∉ M → H' b = some x) (hn : ∀ b ∈ M', b ∉ M → H b = none) : Same (fz M H) (fz M' H') := fun b x e => by
  obtain ⟨nb, e2⟩ := fz_some e
  by_cases z : b ∈ M'
  · rw [hn b z nb] at e2
    cases e2
  · rw [fz_out z]
    exact h b x e2 nb
def MixAt (D : Hp) (vs : List V) : Prop := ∀ v ∈ vs, (∃ i, v = .int i) ∨ ∃ (t : Addr) (th : Th), v = .ref t ∧ D t = some (.tup (thV th))
theorem MixAt.same {D D' : Hp} {vs : List V} (h : MixAt D vs) (s : Same D D') : MixAt D' vs := fun v hv => by
  rcases h v hv with z | ⟨t, th, e, et⟩
  · exact .inl z
  · exact .inr ⟨t, th, e, s _ _ et⟩
/-- a list that was told, and what it held -/
def PairAt (D : Hp) (q : Addr) : Prop := ∃ (a b : Addr) (vs : List V), D q = some (.tup [.ref a, .ref b]) ∧ D a = some (.lst vs) ∧ D b = some (.lst vs) ∧ MixAt D vs
theorem PairAt.same {D D' : Hp} {q : Addr} (h : PairAt D q) (s : Same D D') : PairAt D' q := by
  obtain ⟨a, b, vs, e1, e2, e3, m⟩ := h
  exact ⟨a, b, vs, s _ _ e1, s _ _ e2, s _ _ e3, m.same s⟩
/-- the law's state: room p, its row r, order o, boxes f, next number nx, lists kept kp; D is what does not change any more -/
structure SJ (C : Addr) (bxs : List (List Th)) (D H : Hp) (p r o f nx kp sa : Addr) (ids : List Nat) (fl : Nat → List Th) (N fresh c : Nat) : Prop where
  room : RoomAt C H p r bxs N
  ok : RoomOk bxs N
  st : StOk ids fl fresh
  tup : D sa = some (.tup [.ref o, .ref f, .int N, .ref nx, .ref kp])
  ord : H o = some (.lst (ids.map natV))
  dict : ∃ kvs : List (Key × V), H f = some (.dK kvs) ∧ kvs.length ≤ c ∧ ∀ i ∈ ids, ∃ l : Addr, valV kvs (Sum.inl (i : Int)) = some (.ref l) ∧ FieldsAt D l (fl i)
  nxt : H nx = some (.lst [.int (fresh : Int)])
  kept : ∃ ps : List Addr, H kp = some (.lst (ps.map V.ref)) ∧ ps.length ≤ c ∧ ∀ q ∈ ps, PairAt D q
  ne : r ≠ o ∧ r ≠ nx ∧ r ≠ kp ∧ o ≠ nx ∧ o ≠ kp ∧ nx ≠ kp
  sub : Same D H
  free : ∀ b ∈ [p, r, o, f, nx, kp], D b = none
/-- the room holds the law's boxes -/
abbrev SI (C : Addr) (D H : Hp) (p r o f nx kp sa : Addr) (ids : List Nat) (fl : Nat → List Th) (N fresh c : Nat) : Prop := SJ C (bxsOf ids fl) D H p r o f nx kp sa ids fl N fresh c
section
variable {C : Addr} {bxs : List (List Th)} {D H H' : Hp} {p r o f nx kp sa : Addr} {ids : List Nat} {fl : Nat → List Th} {N fresh c : Nat}
theorem SJ.fd (h : SJ C bxs D H p r o f nx kp sa ids fl N fresh c) : FdAt H H f ids fl := by
  obtain ⟨kvs, e, _, k⟩ := h.dict
  refine ⟨kvs, e, fun i hi => ?_⟩
  obtain ⟨l, el, F⟩ := k i hi
  exact ⟨l, el, F.same h.sub⟩
theorem SJ.stup (h : SJ C bxs D H p r o f nx kp sa ids fl N fresh c) : H sa = some (.tup [.ref o, .ref f, .int N, .ref nx, .ref kp]) := h.sub _ _ h.tup
theorem SI.len (h : SI C D H p r o f nx kp sa ids fl N fresh c) : ids.length ≤ 400 := by
  have h1 := len_le_size (bxsOf ids fl)
  rw [bxsOf_len] at h1
  have := h.ok.sz
  have := h.ok.le
  omega
/-- each of the objects that change stands, and is no tuple -/
theorem SJ.out (h : SJ C bxs D H p r o f nx kp sa ids fl N fresh c) {t : Addr} (e : H t = none ∨ ∃ xs, H t = some (.tup xs)) : t ∉ [p, r, o, f, nx, kp] := fun z => by
  obtain ⟨⟨dx, e1⟩, e2⟩ := h.room
  obtain ⟨kvs, e3, _⟩ := h.dict
  obtain ⟨ps, e4, _⟩ := h.kept
  have e5 := h.ord
  have e6 := h.nxt
  simp only [List.mem_cons, List.not_mem_nil, or_false] at z
  rcases e with e | ⟨xs, e⟩
  · rcases z with z | z | z | z | z | z
    · rw [z, e1] at e; cases e
    · rw [z, e2] at e; cases e
    · rw [z, e5] at e; cases e
    · rw [z, e3] at e; cases e
    · rw [z, e6] at e; cases e
    · rw [z, e4] at e; cases e
  · rcases z with z | z | z | z | z | z
    · rw [z, e1] at e; cases e
    · rw [z, e2] at e; cases e
    · rw [z, e5] at e; cases e
    · rw [z, e3] at e; cases e
    · rw [z, e6] at e; cases e
    · rw [z, e4] at e; cases e
theorem SJ.grow (h : SJ C bxs D H p r o f nx kp sa ids fl N fresh c) (s : Same H H') : SJ C bxs D H' p r o f nx kp sa ids fl N fresh c := by
  obtain ⟨kvs, e3, l3, k3⟩ := h.dict
  obtain ⟨ps, e4, l4, k4⟩ := h.kept
  exact ⟨h.room.same s, h.ok, h.st, h.tup, s _ _ h.ord, ⟨kvs, s _ _ e3, l3, k3⟩, s _ _ h.nxt, ⟨ps, s _ _ e4, l4, k4⟩, h.ne, h.sub.trans s, h.free⟩
theorem SJ.more {c' : Nat} (h : SJ C bxs D H p r o f nx kp sa ids fl N fresh c) (hc : c ≤ c') : SJ C bxs D H p r o f nx kp sa ids fl N fresh c' := by
  obtain ⟨kvs, e3, l3, k3⟩ := h.dict
  obtain ⟨ps, e4, l4, k4⟩ := h.kept
  exact ⟨h.room, h.ok, h.st, h.tup, h.ord, ⟨kvs, e3, by omega, k3⟩, h.nxt, ⟨ps, e4, by omega, k4⟩, h.ne, h.sub, h.free⟩
/-- more does not change any more -/
theorem SJ.wide {D' : Hp} (h : SJ C bxs D H p r o f nx kp sa ids fl N fresh c) (s : Same D D') (s' : Same D' H) (hf : ∀ b ∈ [p, r, o, f, nx, kp], D' b = none) : SJ C bxs D' H p r o f nx kp sa ids fl N fresh c := by
  obtain ⟨kvs, e3, l3, k3⟩ := h.dict
  obtain ⟨ps, e4, l4, k4⟩ := h.kept
  refine ⟨h.room, h.ok, h.st, s _ _ h.tup, h.ord, ⟨kvs, e3, l3, fun i hi => ?_⟩, h.nxt, ⟨ps, e4, l4, fun q hq => (k4 q hq).same s⟩, h.ne, s', hf⟩
  obtain ⟨l, el, F⟩ := k3 i hi
  exact ⟨l, el, F.same s⟩
theorem SJ.sub2 (h : SJ C bxs D H p r o f nx kp sa ids fl N fresh c) : Same D (fz [p, r, o, f, nx, kp] H) := fun b x e => by
  have nb : b ∉ [p, r, o, f, nx, kp] := fun z => by
    rw [h.free b z] at e
    cases e
  rw [fz_out nb]
  exact h.sub b x e
theorem SJ.up (h : SJ C bxs D H p r o f nx kp sa ids fl N fresh c) : SJ C bxs (fz [p, r, o, f, nx, kp] H) H p r o f nx kp sa ids fl N fresh c := h.wide h.sub2 fz_sub fun _ hb => fz_in hb
/-- an object outside is changed -/
theorem SJ.mut {q : Addr} {x : HO} (h : SJ C bxs D H p r o f nx kp sa ids fl N fresh c) (hq : D q = none) (nq : q ∉ [p, r, o, f, nx, kp]) : SJ C bxs D (upd H q x) p r o f nx kp sa ids fl N fresh c := by
  obtain ⟨kvs, e3, l3, k3⟩ := h.dict
  obtain ⟨ps, e4, l4, k4⟩ := h.kept
  obtain ⟨⟨dx, e1⟩, e2⟩ := h.room
  have n : ∀ b ∈ [p, r, o, f, nx, kp], b ≠ q := fun b hb z => nq (z ▸ hb)
  refine ⟨⟨⟨dx, ?_⟩, ?_⟩, h.ok, h.st, h.tup, ?_, ⟨kvs, ?_, l3, k3⟩, ?_, ⟨ps, ?_, l4, k4⟩, h.ne, fun b y e => ?_, h.free⟩
  · rw [upd_ne (n p (by simp))]; exact e1
  · rw [upd_ne (n r (by simp))]; exact e2
  · rw [upd_ne (n o (by simp))]; exact h.ord
  · rw [upd_ne (n f (by simp))]; exact e3
  · rw [upd_ne (n nx (by simp))]; exact h.nxt
  · rw [upd_ne (n kp (by simp))]; exact e4
  · rw [upd_ne (ne_of_none e hq)]
    exact h.sub b y e
/-- what does not change any more: the objects of a list, too -/
def plus (D H : Hp) (l : List Addr) : Hp := fun x => match D x with
  | some y => some y
  | none => if x ∈ l then H x else none
theorem plus_sub {D H : Hp} {l : List Addr} : Same D (plus D H l) := fun b x e => by
  unfold plus
  rw [e]
theorem plus_in {D H : Hp} {l : List Addr} (s : Same D H) {x : Addr} (h : x ∈ l) : plus D H l x = H x := by
  unfold plus
  cases e : D x with
  | none => exact if_pos h
  | some y => exact (s _ _ e).symm
theorem plus_out {D H : Hp} {l : List Addr} {x : Addr} (e : D x = none) (h : x ∉ l) : plus D H l x = none := by
  unfold plus
  rw [e]
  exact if_neg h
theorem plus_le {D H : Hp} {l : List Addr} (s : Same D H) : Same (plus D H l) H := fun b x e => by
  unfold plus at e
  cases z : D b with
  | none =>
    rw [z] at e
    by_cases q : b ∈ l
    · exact (if_pos q).symm.trans e
    · exact absurd ((if_neg q).symm.trans e) (by simp)
  | some y =>
    rw [z] at e
    rw [← Option.some.inj e]
    exact s _ _ z
def refsOf : List V → List Addr
  | [] => []
  | .ref a :: r => a :: refsOf r
  | _ :: r => refsOf r
theorem refs_mem : ∀ {vs : List V} {a : Addr}, V.ref a ∈ vs → a ∈ refsOf vs
  | [], _, h => nomatch h
  | v :: vs, a, h => by
    rcases List.mem_cons.mp h with z | z
    · subst z
      exact List.mem_cons_self
    · have q := refs_mem z
      cases v with
      | ref b => exact List.mem_cons_of_mem _ q
      | _ => exact q
theorem mem_refs : ∀ {vs : List V} {a : Addr}, a ∈ refsOf vs → V.ref a ∈ vs
  | [], _, h => nomatch h
  | v :: vs, a, h => by
    cases v with
    | ref b =>
      rcases List.mem_cons.mp h with z | z
      · subst z
        exact List.mem_cons_self
      · exact List.mem_cons_of_mem _ (mem_refs z)
    | _ => exact List.mem_cons_of_mem _ (mem_refs h)
/-- one more list is kept -/
theorem SJ.keep (h : SJ C bxs D H p r o f nx kp sa ids fl N fresh c) {a b t : Addr} {vs : List V} (na : a ∉ [p, r, o, f, nx, kp]) (nb : b ∉ [p, r, o, f, nx, kp]) (et : H t = some (.tup [.ref a, .ref b])) (ea : H a = some (.lst vs)) (eb : H b = some (.lst vs)) (m : MixAt H vs) :
    ∃ ps : List Addr, H kp = some (.lst (ps.map V.ref)) ∧ ps.length ≤ c ∧ ∃ D', Same D D' ∧ SJ C bxs D' (upd H kp (.lst (ps.map V.ref ++ [V.ref t]))) p r o f nx kp sa ids fl N fresh (c + 1) ∧
      ∀ x, D x = none → x ≠ a → x ≠ b → (∀ xs, H x ≠ some (.tup xs)) → D' x = none := by
  have tOut := h.out (.inr ⟨_, et⟩)
  have rOut : ∀ x ∈ refsOf vs, ∃ xs, H x = some (.tup xs) := fun x hx => by
    rcases m _ (mem_refs hx) with ⟨i, z⟩ | ⟨u, th, z, eu⟩
    · cases z
    · cases z
      exact ⟨_, eu⟩
  have s1 := plus_sub (D := D) (H := H) (l := t :: a :: b :: refsOf vs)
  have h1 := h.wide s1 (plus_le h.sub) fun x hx => plus_out (h.free x hx) fun z => by
    rcases List.mem_cons.mp z with z | z
    · exact tOut (z ▸ hx)
    · rcases List.mem_cons.mp z with z | z
      · exact na (z ▸ hx)
      · rcases List.mem_cons.mp z with z | z
        · exact nb (z ▸ hx)
        · obtain ⟨xs, e⟩ := rOut x z
          exact h.out (.inr ⟨xs, e⟩) hx
  obtain ⟨kvs, e3, l3, k3⟩ := h1.dict
  obtain ⟨ps, e4, l4, k4⟩ := h1.kept
  obtain ⟨⟨dx, e1⟩, e2⟩ := h1.room
  obtain ⟨n1, n2, n3, n4, n5, n6⟩ := h1.ne
  have npk : p ≠ kp := fun z => by rw [z, e4] at e1; cases e1
  have nfk : f ≠ kp := fun z => by rw [z, e4] at e3; cases e3
  have hk : kp ∈ [p, r, o, f, nx, kp] := by simp
  have pt : PairAt (plus D H (t :: a :: b :: refsOf vs)) t := by
    refine ⟨a, b, vs, ?_, ?_, ?_, fun v hv => ?_⟩
    · rw [plus_in h.sub (by simp)]; exact et
    · rw [plus_in h.sub (by simp)]; exact ea
    · rw [plus_in h.sub (by simp)]; exact eb
    · rcases m v hv with q | ⟨u, th, ev, eu⟩
      · exact .inl q
      · refine .inr ⟨u, th, ev, ?_⟩
        rw [plus_in h.sub (by simp [refs_mem (ev ▸ hv)])]
        exact eu
  refine ⟨ps, e4, l4, _, s1, ⟨⟨⟨dx, ?_⟩, ?_⟩, h1.ok, h1.st, h1.tup, ?_, ⟨kvs, ?_, by omega, k3⟩, ?_, ⟨ps ++ [t], ?_, by simp; omega, fun q hq => ?_⟩, h1.ne, fun x y e => ?_, h1.free⟩, fun x ex n1 n2 n3 => plus_out ex fun z => ?_⟩
  · rw [upd_ne npk]; exact e1
  · rw [upd_ne n3]; exact e2
  · rw [upd_ne n5]; exact h1.ord
  · rw [upd_ne nfk]; exact e3
  · rw [upd_ne n6]; exact h1.nxt
  · rw [upd_same, List.map_append]
    rfl
  · rcases List.mem_append.mp hq with q1 | q1
    · exact k4 q q1
    · rw [List.mem_singleton.mp q1]
      exact pt
  · rw [upd_ne (ne_of_none e (h1.free kp hk))]
    exact h1.sub x y e
  · rcases List.mem_cons.mp z with z | z
    · exact n3 _ (z ▸ et)
    · rcases List.mem_cons.mp z with z | z
      · exact n1 z
      · rcases List.mem_cons.mp z with z | z
        · exact n2 z
        · obtain ⟨xs, e⟩ := rOut x z
          exact n3 xs e
/-- the room has changed -/
theorem SJ.roomNew {bxs' : List (List Th)} {r' : Addr} (h : SJ C bxs D H p r o f nx kp sa ids fl N fresh c) (hr : r' = r ∨ H r' = none) (R : RoomAt C H' p r' bxs' N) (ok : RoomOk bxs' N) (bt : ∀ b x, H b = some x → b ≠ p → b ≠ r → H' b = some x) : SJ C bxs' D H' p r' o f nx kp sa ids fl N fresh c := by
  obtain ⟨kvs, e3, l3, k3⟩ := h.dict
  obtain ⟨ps, e4, l4, k4⟩ := h.kept
  obtain ⟨⟨dx, e1⟩, e2⟩ := h.room
  obtain ⟨n1, n2, n3, n4, n5, n6⟩ := h.ne
  have e5 := h.ord
  have e6 := h.nxt
  have np : ∀ b xs, H b = some (.lst xs) → b ≠ p := fun b xs e z => by rw [z, e1] at e; cases e
  have nr : ∀ b, b ≠ r → H b ≠ none → b ≠ r' := fun b hb hn z => by
    rcases hr with q | q
    · exact hb (z.trans q)
    · exact hn (z ▸ q)
  refine ⟨R, ok, h.st, h.tup, bt _ _ e5 (np _ _ e5) n1.symm, ⟨kvs, bt _ _ e3 (fun z => by rw [z, e1] at e3; cases e3) (fun z => by rw [z, e2] at e3; cases e3), l3, k3⟩, bt _ _ e6 (np _ _ e6) n2.symm, ⟨ps, bt _ _ e4 (np _ _ e4) n3.symm, l4, k4⟩,
    ⟨(nr o n1.symm (by rw [e5]; simp)).symm, (nr nx n2.symm (by rw [e6]; simp)).symm, (nr kp n3.symm (by rw [e4]; simp)).symm, n4, n5, n6⟩, fun b x e => bt b x (h.sub b x e) (ne_of_none e (h.free p (by simp))) (ne_of_none e (h.free r (by simp))), fun b hb => ?_⟩
  simp only [List.mem_cons, List.not_mem_nil, or_false] at hb
  rcases hb with z | z | z | z | z | z
  · rw [z]; exact h.free p (by simp)
  · rw [z]
    rcases hr with q | q
    · rw [q]; exact h.free r (by simp)
    · exact h.sub.free q
  · rw [z]; exact h.free o (by simp)
  · rw [z]; exact h.free f (by simp)
  · rw [z]; exact h.free nx (by simp)
  · rw [z]; exact h.free kp (by simp)
/-- the next number -/
theorem SJ.setNx (h : SJ C bxs D H p r o f nx kp sa ids fl N fresh c) : SJ C bxs D (upd H nx (.lst [.int ((fresh + 1 : Nat) : Int)])) p r o f nx kp sa ids fl N (fresh + 1) c := by
  obtain ⟨kvs, e3, l3, k3⟩ := h.dict
  obtain ⟨ps, e4, l4, k4⟩ := h.kept
  obtain ⟨⟨dx, e1⟩, e2⟩ := h.room
  obtain ⟨n1, n2, n3, n4, n5, n6⟩ := h.ne
  have e6 := h.nxt
  have s := h.st
  refine ⟨⟨⟨dx, ?_⟩, ?_⟩, h.ok, ⟨s.nd, s.hd, s.cl, fun o ho => Nat.lt_succ_of_lt (s.lt o ho)⟩, h.tup, ?_, ⟨kvs, ?_, l3, k3⟩, upd_same, ⟨ps, ?_, l4, k4⟩, h.ne, fun b x e => ?_, h.free⟩
  · rw [upd_ne (fun z => by rw [z, e6] at e1; cases e1)]; exact e1
  · rw [upd_ne n2]; exact e2
  · rw [upd_ne n4]; exact h.ord
  · rw [upd_ne (fun z => by rw [z, e6] at e3; cases e3)]; exact e3
  · rw [upd_ne n6.symm]; exact e4
  · rw [upd_ne (ne_of_none e (h.free nx (by simp)))]
    exact h.sub b x e
/-- a box more in the law's order -/
theorem SJ.addBox {x : Nat} {l : Addr} {ths : List Th} (h : SJ C bxs D H p r o f nx kp sa ids fl N fresh c) {kvs : List (Key × V)} (ef : H f = some (.dK kvs)) (F : FieldsAt D l ths) (hx : x ∉ ids) (s : StOk (ids ++ [x]) (setF fl x ths) fresh) :
    SJ C bxs D (upd (upd H o (.lst (ids.map natV ++ [natV x]))) f (.dK (putK kvs (Sum.inl (x : Int)) (.ref l)))) p r o f nx kp sa (ids ++ [x]) (setF fl x ths) N fresh (c + 1) := by
  obtain ⟨kvs', e3, l3, k3⟩ := h.dict
  rw [ef] at e3
  cases HO.dK.inj (Option.some.inj e3)
  obtain ⟨ps, e4, l4, k4⟩ := h.kept
  obtain ⟨⟨dx, e1⟩, e2⟩ := h.room
  obtain ⟨n1, n2, n3, n4, n5, n6⟩ := h.ne
  have e5 := h.ord
  have e6 := h.nxt
  have nf : ∀ b xs, H b = some (.lst xs) → b ≠ f := fun b xs e z => by rw [z, ef] at e; cases e
  refine ⟨⟨⟨dx, ?_⟩, ?_⟩, h.ok, s, h.tup, ?_, ⟨_, upd_same, ?_, fun i hi => ?_⟩, ?_, ⟨ps, ?_, by omega, k4⟩, h.ne, fun b y e => ?_, h.free⟩
  · rw [upd_ne (fun z => by rw [z, ef] at e1; cases e1), upd_ne (fun z => by rw [z, e5] at e1; cases e1)]; exact e1
  · rw [upd_ne (nf _ _ e2), upd_ne n1]; exact e2
  · rw [upd_ne (nf _ _ e5), upd_same, List.map_append]; rfl
  · have := length_putK kvs (Sum.inl (x : Int)) (.ref l)
    omega
  · rw [valV_put]
    unfold setF
    by_cases z : i = x
    · rw [if_pos (by rw [z]), if_pos z]
      exact ⟨l, rfl, F⟩
    · rw [if_neg (fun e => z (by have := Sum.inl.inj e; omega)), if_neg z]
      rcases List.mem_append.mp hi with q | q
      · exact k3 i q
      · exact absurd (List.mem_singleton.mp q) z
  · rw [upd_ne (nf _ _ e6), upd_ne n4.symm]; exact e6
  · rw [upd_ne (nf _ _ e4), upd_ne n5.symm]; exact e4
  · rw [upd_ne (ne_of_none e (h.free f (by simp))), upd_ne (ne_of_none e (h.free o (by simp)))]
    exact h.sub b y e
/-- other fields for a box -/
theorem SJ.setBox {x : Nat} {l : Addr} {ths : List Th} (h : SJ C bxs D H p r o f nx kp sa ids fl N fresh c) {kvs : List (Key × V)} (ef : H f = some (.dK kvs)) (F : FieldsAt D l ths) (s : StOk ids (setF fl x ths) fresh) :
    SJ C bxs D (upd H f (.dK (putK kvs (Sum.inl (x : Int)) (.ref l)))) p r o f nx kp sa ids (setF fl x ths) N fresh (c + 1) := by
  obtain ⟨kvs', e3, l3, k3⟩ := h.dict
  rw [ef] at e3
  cases HO.dK.inj (Option.some.inj e3)
  obtain ⟨ps, e4, l4, k4⟩ := h.kept
  obtain ⟨⟨dx, e1⟩, e2⟩ := h.room
  have e5 := h.ord
  have e6 := h.nxt
  have nf : ∀ b xs, H b = some (.lst xs) → b ≠ f := fun b xs e z => by rw [z, ef] at e; cases e
  refine ⟨⟨⟨dx, ?_⟩, ?_⟩, h.ok, s, h.tup, ?_, ⟨_, upd_same, ?_, fun i hi => ?_⟩, ?_, ⟨ps, ?_, by omega, k4⟩, h.ne, fun b y e => ?_, h.free⟩
  · rw [upd_ne (fun z => by rw [z, ef] at e1; cases e1)]; exact e1
  · rw [upd_ne (nf _ _ e2)]; exact e2
  · rw [upd_ne (nf _ _ e5)]; exact e5
  · have := length_putK kvs (Sum.inl (x : Int)) (.ref l)
    omega
  · rw [valV_put]
    unfold setF
    by_cases z : i = x
    · rw [if_pos (by rw [z]), if_pos z]
      exact ⟨l, rfl, F⟩
    · rw [if_neg (fun e => z (by have := Sum.inl.inj e; omega)), if_neg z]
      exact k3 i hi
  · rw [upd_ne (nf _ _ e6)]; exact e6
  · rw [upd_ne (nf _ _ e4)]; exact e4
  · rw [upd_ne (ne_of_none e (h.free f (by simp)))]
    exact h.sub b y e
end
/-- things as data -/
def thD : Th → PyData
  | .num n => .tuple [.str "number", .int n]
  | .box k => .tuple [.str "box", .int (k : Int)]
theorem dp_th {K : PySem.W.Frag} {H : Hp} {t : Addr} {th : Th} (h : H t = some (.tup (thV th))) : Dp K H (.ref t) (thD th) := by
  cases th with
  | num n => exact .tup (.of h) (.cons (.str _) (.cons (.int _) .nil))
  | box k => exact .tup (.of h) (.cons (.str _) (.cons (.int _) .nil))
theorem th_lay (th : Th) : (thD th).canLay0 = true := by
  cases th with
  | num n => simp only [thD, PyData.canLay0, PyData.canLayAll0]; decide +kernel
  | box n => simp only [thD, PyData.canLay0, PyData.canLayAll0]; decide +kernel
theorem th_depth (th : Th) : (thD th).depth ≤ 1 := by
  cases th with
  | num n => simp [thD, PyData.depth, PyData.depthAll]
  | box n => simp [thD, PyData.depth, PyData.depthAll]
theorem th_eqv (th : Th) : PyData.eqv (thD th) (thD th) = true := by
  cases th with
  | num n => simp [thD, PyData.eqv, PyData.eqvAll]
  | box n => simp [thD, PyData.eqv, PyData.eqvAll]
/-- data that may be told apart: shallow, and like itself -/
def FineD (d : PyData) : Prop := d.canLay0 = true ∧ d.depth ≤ 1 ∧ PyData.eqv d d = true
theorem fine_th (th : Th) : FineD (thD th) := ⟨th_lay th, th_depth th, th_eqv th⟩
theorem fine_int (i : Int) : FineD (.int i) := ⟨by simp [PyData.canLay0], by simp [PyData.depth], by simp [PyData.eqv]⟩
theorem fines : ∀ {ds : List PyData}, (∀ d ∈ ds, FineD d) → PyData.canLayAll0 ds = true ∧ PyData.depthAll ds ≤ 1 ∧ PyData.eqvAll ds ds = true
  | [], _ => ⟨by simp [PyData.canLayAll0], by simp [PyData.depthAll], by simp [PyData.eqvAll]⟩
  | d :: ds, h => by
    obtain ⟨a1, a2, a3⟩ := h d List.mem_cons_self
    obtain ⟨b1, b2, b3⟩ := fines fun x hx => h x (List.mem_cons_of_mem _ hx)
    refine ⟨by simp [PyData.canLayAll0, a1, b1], ?_, by simp [PyData.eqvAll, a3, b3]⟩
    simp only [PyData.depthAll]
    omega
theorem fine_list {ds : List PyData} (h : ∀ d ∈ ds, FineD d) : SeqAt.shaped (.list ds) = true ∧ PyData.eqv (.list ds) (.list ds) = true := by
  obtain ⟨b1, b2, b3⟩ := fines h
  constructor
  · show (PyData.canLay0 (.list ds) && decide (PyData.depth (.list ds) ≤ 64)) = true
    rw [Bool.and_eq_true]
    exact ⟨by simp only [PyData.canLay0]; exact b1, decide_eq_true (by simp only [PyData.depth]; omega)⟩
  · simp only [PyData.eqv]
    exact b3
theorem dpall_of {K : PySem.W.Frag} {H : Hp} : ∀ {ts : List Addr} {fs : List Th}, ts.length = fs.length → (∀ (i : Nat) (t : Addr) (th : Th), ts[i]? = some t → fs[i]? = some th → H t = some (.tup (thV th))) → DpAll K H (ts.map V.ref) (fs.map thD)
  | [], [], _, _ => .nil
  | t :: ts, th :: fs, hl, h => .cons (dp_th (h 0 t th rfl rfl)) (dpall_of (by simpa using hl) fun i u x a b => h (i + 1) u x (by simpa using a) (by simpa using b))
theorem dp_fields {K : PySem.W.Frag} {H : Hp} {l : Addr} {fs : List Th} (F : FieldsAt H l fs) : Dp K H (.ref l) (.list (fs.map thD)) := by
  obtain ⟨ts, e, hl, k⟩ := F
  exact .lst (.of e) (dpall_of hl k)
theorem ths_fine (fs : List Th) : SeqAt.shaped (.list (fs.map thD)) = true ∧ PyData.eqv (.list (fs.map thD)) (.list (fs.map thD)) = true := fine_list fun d hd => by
  obtain ⟨t, _, rfl⟩ := List.mem_map.mp hd
  exact fine_th t
theorem mix_data {K : PySem.W.Frag} {H : Hp} : ∀ {vs : List V}, MixAt H vs → ∃ ds, DpAll K H vs ds ∧ ∀ d ∈ ds, FineD d
  | [], _ => ⟨[], .nil, fun _ z => nomatch z⟩
  | v :: vs, h => by
    obtain ⟨ds, a, b⟩ := mix_data fun x hx => h x (List.mem_cons_of_mem _ hx)
    rcases h v List.mem_cons_self with ⟨i, rfl⟩ | ⟨t, th, rfl, et⟩
    · refine ⟨.int i :: ds, .cons (.int i) a, fun d hd => ?_⟩
      rcases List.mem_cons.mp hd with z | z
      · rw [z]; exact fine_int i
      · exact b d z
    · refine ⟨thD th :: ds, .cons (dp_th et) a, fun d hd => ?_⟩
      rcases List.mem_cons.mp hd with z | z
      · rw [z]; exact fine_th th
      · exact b d z
theorem mix_fields {H : Hp} {ts : List Addr} {fs : List Th} (hl : ts.length = fs.length) (k : ∀ (i : Nat) (t : Addr) (th : Th), ts[i]? = some t → fs[i]? = some th → H t = some (.tup (thV th))) : MixAt H (ts.map V.ref) := fun v hv => by
  obtain ⟨t, ht, rfl⟩ := List.mem_map.mp hv
  obtain ⟨i, hi, ei⟩ := List.mem_iff_getElem.mp ht
  exact .inr ⟨t, fs[i]'(by omega), rfl, k i t _ (by rw [List.getElem?_eq_getElem hi, ei]) (List.getElem?_eq_getElem (by omega))⟩
theorem mix_three {D : Hp} {vs : List V} (h : MixAt D vs) (i : Int) : MixAt D (vs ++ [.int i]) := fun v hv => by
  rcases List.mem_append.mp hv with z | z
  · exact h v z
  · exact .inl ⟨i, List.mem_singleton.mp z⟩
section
variable {C : Addr} {bxs : List (List Th)} {D H H' : Hp} {p r o f nx kp sa : Addr} {ids : List Nat} {fl : Nat → List Th} {N fresh c : Nat}
/-- a list of things does not change any more -/
theorem SJ.addL {l : Addr} {ths : List Th} (h : SJ C bxs D H p r o f nx kp sa ids fl N fresh c) (F : FieldsAt H l ths) (nl : l ∉ [p, r, o, f, nx, kp]) :
    ∃ D', Same D D' ∧ SJ C bxs D' H p r o f nx kp sa ids fl N fresh c ∧ FieldsAt D' l ths ∧ ∀ x, D x = none → x ≠ l → (∀ xs, H x ≠ some (.tup xs)) → D' x = none := by
  obtain ⟨ts, e, hl, k⟩ := F
  have m := mix_fields hl k
  have rt : ∀ x ∈ refsOf (ts.map V.ref), ∃ xs, H x = some (.tup xs) := fun x hx => by
    rcases m _ (mem_refs hx) with ⟨i, z⟩ | ⟨u, th, z, eu⟩
    · cases z
    · cases z
      exact ⟨_, eu⟩
  refine ⟨plus D H (l :: refsOf (ts.map V.ref)), plus_sub, h.wide plus_sub (plus_le h.sub) fun x hx => plus_out (h.free x hx) fun z => ?_, ⟨ts, ?_, hl, fun i t th h1 h2 => ?_⟩, fun x ex n1 n2 => plus_out ex fun z => ?_⟩
  · rcases List.mem_cons.mp z with z | z
    · exact nl (z ▸ hx)
    · obtain ⟨xs, e⟩ := rt x z
      exact h.out (.inr ⟨xs, e⟩) hx
  · rw [plus_in h.sub (by simp)]
    exact e
  · rw [plus_in h.sub (List.mem_cons_of_mem _ (refs_mem (List.mem_map.mpr ⟨t, List.mem_of_getElem? h1, rfl⟩)))]
    exact k i t th h1 h2
  · rcases List.mem_cons.mp z with z | z
    · exact n1 z
    · obtain ⟨xs, e⟩ := rt x z
      exact n2 xs e
end
theorem fields_but {H H' : Hp} {l p C dx : Addr} {m : List (Str × V)} {fs : List Th} (F : FieldsAt H l fs) (bt : ∀ b o, H b = some o → b ≠ p → H' b = some o) (hp : H p = some (.ins C dx m)) : FieldsAt H' l fs := by
  obtain ⟨ts, e, hl, k⟩ := F
  refine ⟨ts, bt _ _ e (fun z => by rw [z, hp] at e; cases e), hl, fun i t th h1 h2 => ?_⟩
  have q := k i t th h1 h2
  exact bt _ _ q fun z => by rw [z, hp] at q; cases q
theorem at_one (th : Th) : ∃ n : Int, atI (thV th) 1 = some (.int n) := by
  cases th with
  | num n => exact ⟨_, rfl⟩
  | box k => exact ⟨_, rfl⟩
/-! #### _law_told -/
def sp_l_told (K : PySem.W.Frag) (A : Adr) : Sp := fun vs H Q _ => ∃ (D0 : Hp) (p r o f nx kp sa : Addr) (ids : List Nat) (fl : Nat → List Th) (N fresh c : Nat), vs = [.ref p, .ref sa] ∧ SI A.c_Room D0 H p r o f nx kp sa ids fl N fresh c ∧ c ≤ 50000 ∧
    ∀ D' H', Same D0 D' → SI A.c_Room D' H' p r o f nx kp sa ids fl N fresh (c + 1) → Q (.bl true) H'
theorem ok_l_told (T : Txt K mg A) : FnOk P w K mg base CX0 5 A.f_l_told A.d_l_told ["_law_room", "_law_state"] (sp_l_told K A) := by
  refine T.F_l_told.ok sc_l_told (fun vs H Q E h => by obtain ⟨D0, p, r, o, f, nx, kp, sa, ids, fl, N, fresh, c, rfl, I, hc, k⟩ := h; rfl) (fun cdv A' outer s H vs Q E hr h => ⟨_, (pss_cons (ps_set (i := 2) sc_l_told.nd rfl (.inr rfl) (pe_call (ok_l_places_of T) (hr.mono (by decide)) (by rfl) T.m__law_places_of T.F_l_places_of.kp T.b_l_places_of .nil pass0 (pa_cons (pe_ix (ix_tupK (K := K) rfl) (pv 1) pe_int (fun _ _ => rfl)) (pa_cons (pe_ix (ix_tupK (K := K) rfl) (pv 1) pe_int (fun _ _ => rfl)) pa_nil))))
  (pss_cons (ps_for PassesOwn.never rfl (pi_listK (K := K) rfl (pe_ix (ix_tupK (K := K) rfl) (pv 1) pe_int (fun _ _ => rfl))) (pg_name (i := 3) sc_l_told.nd rfl (.inl rfl))
  (pss_cons (ps_setLc (i := 4) (own := [("_law_thing_here", 5)]) (g := gName 5) rfl sc_l_told.nd rfl rfl (sw_true rfl rfl rfl (by decide +kernel)) (pi_listK (K := K) rfl (pe_dget (hu_of hr) (pe_ix (ix_tupK (K := K) rfl) (pv 1) pe_int (fun _ _ => rfl)) (pv 3) (fun _ _ => rfl))) (blkOk_by (own := [("_law_thing_here", 5)]) (N := ["_law_room", "_law_state", "_law_places", "_law_one", "_law_due", "_law_thing_here", "_law_found"]) (sc := defScope s_l_told) (by decide +kernel)) (fun _ _ _ _ _ => pg_name (i := 5) sc_l_told.nd rfl (.inl rfl)) (fun _ _ _ _ _ => pts_nil) (fun _ _ _ _ _ => (pe_call (ok_l_handed T) (hr.mono (by decide)) (by rfl) T.m__law_handed T.F_l_handed.kp T.b_l_handed .nil pass0 (pa_cons (pv 5) (pa_cons (pv 2) pa_nil)))))
  (pss_cons (ps_set (i := 6) sc_l_told.nd rfl (.inl rfl) (pe_meth (pv 0) T.clR T.me_Rtold (ok_Rtold T) (hr.mono (by decide)) T.b_Rtold .nil pass0 (pa_cons (pe_dget (hu_of hr) (pv 2) (pv 3) (fun _ _ => rfl)) pa_nil)))
  (pss_cons (ps_if (PW.pt (pw_or (pt_not (pt_val (pe_callB (call_isiK (K := K) rfl) (by rfl) T.z_isinstance (by decide +kernel) (pa_cons (pv 6) (pa_cons (pe_bltn (v := .ty "list") (by rfl) T.z_list (by decide +kernel) rfl) pa_nil))))) (pw_or1 (pt_cmpR (op_neDK (K := K) rfl hr.units) (pv 6) (pv 4) (nomark _)))))
  (pss_one (ps_ret pe_bl))
  pss_nil)
  (pss_cons (ps_for PassesOwn.never rfl (pi_listK (K := K) rfl (pv 6)) (pg_name (i := 5) sc_l_told.nd rfl (.inl rfl))
  (pss_one (ps_if (PW.pt (pw_or (pt_not (pt_val (pe_callB (call_isiK (K := K) rfl) (by rfl) T.z_isinstance (by decide +kernel) (pa_cons (pv 5) (pa_cons (pe_bltn (v := .ty "tuple") (by rfl) T.z_tuple (by decide +kernel) rfl) pa_nil))))) (pw_or1 (pt_not (pt_val (pe_call (ok_l_is_int T) (hr.mono (by decide)) (by rfl) T.m__law_is_int T.F_l_is_int.kp T.b_l_is_int .nil pass0 (pa_cons (pe_ix (ix_tupK (K := K) rfl) (pv 5) pe_int (fun _ _ => rfl)) pa_nil)))))))
  (pss_one (ps_ret pe_bl))
  pss_nil)))
  (pss_cons (ps_expr (pe_bm PySem.F.plainAttrs_list PySem.F.slot_list_append PySem.F.type_list_append mt_append (pv 6) (pa_cons pe_int pa_nil)))
  (pss_one (ps_if (pt_cmpR (op_neDK (K := K) rfl hr.units) (pe_meth (pv 0) T.clR T.me_Rtold (ok_Rtold T) (hr.mono (by decide)) T.b_Rtold .nil pass0 (pa_cons (pe_dget (hu_of hr) (pv 2) (pv 3) (fun _ _ => rfl)) pa_nil)) (pv 4) (nomark _))
  (pss_one (ps_ret pe_bl))
  pss_nil))))))))
  (pss_cons (ps_expr (pe_bm PySem.F.plainAttrs_list PySem.F.slot_list_append PySem.F.type_list_append mt_append (pe_ix (ix_tupK (K := K) rfl) (pv 1) pe_int (fun _ _ => rfl)) (pa_cons (pe_tup (pa_cons (pv 6) (pa_cons (pe_callTy (call_list_ofK (K := K) rfl) (by rfl) T.z_list (by decide +kernel) (pa_cons (pv 6) pa_nil)) pa_nil))) pa_nil)))
  (pss_one (ps_ret pe_bl))))), ?_⟩)
  obtain ⟨D0, p, r, o, f, nx, kp, sa, ids, fl, N, fresh, c, rfl, I, hc, k⟩ := h
  have hlen := I.len
  have h400 := I.ok.le
  have hsz := I.ok.sz
  walk_at "rd"
  refine ⟨sa, _, 0, .ref o, rfl, rfl, .of I.stup, rfl, ?_⟩
  walk_at "rd"
  refine ⟨sa, _, 1, .ref f, rfl, rfl, .of I.stup, rfl, ?_⟩
  refine ⟨o, f, ids, fl, rfl, I.ord, I.fd, I.st.nd, by omega, fun g H1 hg s1 Pg => ?_⟩
  have I1 := I.grow s1
  obtain ⟨gvs, eg, kg⟩ := id Pg
  obtain ⟨kvs, ef, kf⟩ := I1.fd
  obtain ⟨⟨dx, eo⟩, er⟩ := id I1.room
  walk_at "rd"
  refine ⟨sa, _, 0, .ref o, rfl, rfl, .of I1.stup, rfl, ?_⟩
  walk_at "rd"
  refine ⟨⟨_, .of I1.ord⟩, for_list (K := K) (a := o) (xs := ids.map natV) (fun i σ' H' => ∃ y3 y4 y5 y6 : Option V, σ' = [some (.ref p), some (.ref sa), some (.ref g), y3, y4, y5, y6] ∧ Same H1 H' ∧ (0 < i → ∃ (l : Addr) (vs : List V), y6 = some (.ref l) ∧ H1 l = none ∧ H' l = some (.lst vs) ∧ vs.length ≤ 1000 ∧ MixAt H' vs))
    ⟨none, none, none, none, rfl, Same.refl _, fun z => absurd z (Nat.lt_irrefl _)⟩ (fun i σ' H' _ ⟨_, _, _, _, _, s, _⟩ => .of (s _ _ I1.ord)) ?_ ?_⟩
  · rintro i x σ' H' hx ⟨y3, y4, y5, y6, rfl, S, _⟩
    obtain ⟨a, ha, rfl⟩ := nat_get hx
    have hm := List.mem_of_getElem? ha
    obtain ⟨l, el, F⟩ := kf a hm
    obtain ⟨ts, ets, lts, kt⟩ := id F
    have hfl : (fl a).length ≤ 400 := by
      have := sizeT_field (bxsOf_get (fl := fl) hm)
      rw [List.length_map] at this
      omega
    -- due
    walk_at "rd"
    refine ⟨sa, _, 1, .ref f, rfl, rfl, .of (S _ _ I1.stup), rfl, ?_⟩
    walk_at "rd"
    refine ⟨f, .ref l, rfl, dget (S _ _ ef) el, ?_⟩
    walk_at "rd"
    refine ⟨⟨_, .of (S _ _ ets)⟩, fun D hD => lc_list (K := K) (a := l) (xs := ts.map V.ref) (fun j H2 => Same H' H2 ∧ FieldsAt H2 D (((fl a).take j).map (handT (plI ids fl)))) ⟨same_upd hD, [], upd_same, rfl, fun j u th z => (nomatch z)⟩ (fun j H2 _ p => .of (p.1 _ _ (S _ _ ets))) (fun j x H2 hx p => ?_) (fun H2 p => ?_)⟩
    · obtain ⟨t, et, rfl⟩ := ref_get hx
      have hj : j < (fl a).length := by
        have := (List.getElem?_eq_some_iff.mp et).1
        omega
      have eth := List.getElem?_eq_getElem hj
      have e3 := p.1 _ _ (S _ _ (kt j t _ et eth))
      refine ⟨rfl, ?_⟩
      walk_at "rd"
      refine ⟨t, g, _, ids, _, rfl, e3, Pg.same (S.trans p.1), fun k hk => I.st.cl a hm k (hk ▸ List.mem_of_getElem? eth), fun t' H3 s3 e4 => ?_⟩
      obtain ⟨us, e5, l5, F5⟩ := (p.2.same s3).push e4
      refine ⟨_, e5, sz2001 (by rw [List.length_map, l5, List.length_map, List.length_take]; omega), same_mut hD (p.1.trans s3), ?_⟩
      rw [List.take_add_one, eth, Option.toList_some, List.map_append]
      rw [List.map_append] at F5
      exact F5
    obtain ⟨p1, p2⟩ := p
    rw [List.length_map, lts, List.take_length] at p2
    have S2 := S.trans p1
    -- told
    walk_at "rd"
    refine ⟨p, dx, _, rfl, S2 _ _ eo, rmf_no _ _ (by decide +kernel) (by decide +kernel), ?_⟩
    walk_at "rd"
    refine ⟨g, natV (plI ids fl a), rfl, dget (S2 _ _ eg) (kg a hm), ?_⟩
    refine ⟨p, r, bxsOf ids fl, N, ids.idxOf a, (fl a).map (ixT ids), rfl, I1.room.same S2, I.ok, bxsOf_get hm, fun q H3 hq s3 F3 => ?_⟩
    rw [hand_pls] at F3
    have F3D := p2.same s3
    have hq1 : H1 q = none := S2.free hq
    have S3 := S2.trans s3
    obtain ⟨us, eq, lus, ku⟩ := id F3
    rw [List.length_map] at lus
    walk_at "rd"
    refine ⟨.ref q, _, _, _, true, rfl, .ty "list", .base (.lst eq), kit_ty (by decide +kernel), ?_⟩
    walk_at "rd"
    refine ⟨.list (((fl a).map (handT (plI ids fl))).map thD), .list (((fl a).map (handT (plI ids fl))).map thD), dp_fields F3, dp_fields F3D, (ths_fine _).1, (ths_fine _).1, ?_⟩
    walk_at "rd"
    refine ifF (by rw [(ths_fine _).2]; rfl) ?_
    -- each thing
    walk_at "rd"
    refine ⟨⟨_, .of eq⟩, for_list (K := K) (a := q) (xs := us.map V.ref) (fun j σ2 H2 => ∃ y5 : Option V, σ2 = [some (.ref p), some (.ref sa), some (.ref g), some (natV a), some (.ref D), y5, some (.ref q)] ∧ H2 = H3) ⟨y5, rfl, rfl⟩ (fun j σ2 H2 _ ⟨_, _, e⟩ => .of (by rw [e]; exact eq)) ?_ ?_⟩
    · rintro j x σ2 H2 hx ⟨y5, rfl, rfl⟩
      obtain ⟨t, et, rfl⟩ := ref_get hx
      have hj : j < ((fl a).map (handT (plI ids fl))).length := by
        have := (List.getElem?_eq_some_iff.mp et).1
        rw [List.length_map]
        omega
      have e3 := ku j t _ et (List.getElem?_eq_getElem hj)
      obtain ⟨n, en⟩ := at_one ((fl a).map (handT (plI ids fl)))[j]
      walk_at "rd"
      refine ⟨.ref t, _, _, _, true, rfl, .ty "tuple", .base (.tup e3), kit_ty (by decide +kernel), ?_⟩
      walk_at "rd"
      refine ⟨t, _, 1, .int n, rfl, rfl, .of e3, en, ?_⟩
      walk_at "rd"
      rfl
    rintro σ2 H2 ⟨y5, rfl, rfl⟩
    -- changed, and told again
    walk_at "rd"
    refine ⟨.inl ⟨rfl, _, .of eq⟩, ?_⟩
    walk_at "rd"
    refine ⟨q, _, _, rfl, rfl, eq, sz2001 (by rw [List.length_map]; omega), ?_⟩
    have S4 := fun o => same_mut (o := o) hq1 S3
    have nDq : D ≠ q := by
      obtain ⟨_, e0, _, _⟩ := p2
      exact ne_of_none e0 hq
    have F4D := F3D.other (ys := us.map V.ref ++ [V.int 3]) eq nDq
    walk_at "rd"
    refine ⟨p, dx, _, rfl, S4 _ _ _ eo, rmf_no _ _ (by decide +kernel) (by decide +kernel), ?_⟩
    walk_at "rd"
    refine ⟨g, natV (plI ids fl a), rfl, dget (S4 _ _ _ eg) (kg a hm), ?_⟩
    refine ⟨p, r, bxsOf ids fl, N, ids.idxOf a, (fl a).map (ixT ids), rfl, I1.room.same (S4 _), I.ok, bxsOf_get hm, fun q2 H5 hq2 s5 F5 => ?_⟩
    rw [hand_pls] at F5
    walk_at "rd"
    refine ⟨.list (((fl a).map (handT (plI ids fl))).map thD), .list (((fl a).map (handT (plI ids fl))).map thD), dp_fields F5, dp_fields (F4D.same s5), (ths_fine _).1, (ths_fine _).1, ?_⟩
    walk_at "rd"
    refine ifF (by rw [(ths_fine _).2]; rfl) ?_
    have mx : MixAt H5 (us.map V.ref ++ [V.int 3]) := by
      refine mix_three (mix_fields (fs := (fl a).map (handT (plI ids fl))) (by rw [List.length_map]; exact lus) fun i t th h1 h2 => ?_) 3
      have e6 := ku i t th h1 h2
      have : t ≠ q := fun z => by rw [z, eq] at e6; cases e6
      exact s5 _ _ (by rw [upd_ne this]; exact e6)
    exact ⟨_, _, _, _, rfl, (S4 _).trans s5, fun _ => ⟨q, _, rfl, hq1, s5 _ _ upd_same, by rw [List.length_append, List.length_map]; show us.length + 1 ≤ _; omega, mx⟩⟩
  · rintro σ' H' ⟨y3, y4, y5, y6, rfl, S, last⟩
    rw [List.length_map] at last
    obtain ⟨l, vs, rfl, hl1, el, lvs, mx⟩ := last (List.length_pos_of_mem (st_mem0 I.st))
    obtain ⟨ps0, ekp, lps, _⟩ := (I1.grow S).kept
    walk_at "rd"
    refine ⟨sa, _, 4, .ref kp, rfl, rfl, .of (S _ _ I1.stup), rfl, ?_⟩
    refine ⟨.inl ⟨rfl, _, .of ekp⟩, ?_⟩
    walk_at "rd"
    refine ⟨l, _, rfl, .inl (.of el), fun b hb => ?_⟩
    refine ⟨by show 2 ≤ sizeLine; decide, fun t ht => ?_⟩
    have sb := fun o => same_upd (o := o) hb
    have st2 := fun o => (sb (.lst vs)).trans (same_upd (o := o) ht)
    have nbt : b ≠ t := fun z => by rw [← z, upd_same] at ht; cases ht
    have sAll := S.trans (st2 (.tup [.ref l, .ref b]))
    obtain ⟨ps, ekp2, lps2, D', sD, I2, _⟩ := (I1.grow sAll).keep (a := l) (b := b) (t := t) (vs := vs) (I1.out (.inl hl1)) ((I1.grow S).out (.inl hb)) upd_same (st2 _ _ _ el) (by rw [upd_ne nbt, upd_same]) (mx.same (st2 _))
    refine ⟨kp, _, _, rfl, rfl, ekp2, sz2001 (by rw [List.length_map]; omega), ?_⟩
    walk_at "rd"
    exact k D' _ sD I2
theorem cut_mem {xs : List V} {v : V} {lo hi : Option Int} (h : v ∈ cutV xs lo hi) : v ∈ xs := List.mem_of_mem_drop (List.mem_of_mem_take h)
theorem upd_twice {H : Hp} {a : Addr} {x y : HO} : upd (upd H a x) a y = upd H a y := by
  funext b
  by_cases z : b = a
  · rw [z, upd_same, upd_same]
  · rw [upd_ne z, upd_ne z, upd_ne z]
section
variable {C : Addr} {bxs : List (List Th)} {D H : Hp} {p r o f nx kp sa : Addr} {ids ids' : List Nat} {fl : Nat → List Th} {N fresh c : Nat}
/-- fewer boxes in the law's order -/
theorem SJ.setOrd (h : SJ C bxs D H p r o f nx kp sa ids fl N fresh c) (s : StOk ids' fl fresh) (sub : ∀ i ∈ ids', i ∈ ids) : SJ C bxs D (upd H o (.lst (ids'.map natV))) p r o f nx kp sa ids' fl N fresh c := by
  obtain ⟨kvs, e3, l3, k3⟩ := h.dict
  obtain ⟨ps, e4, l4, k4⟩ := h.kept
  obtain ⟨⟨dx, e1⟩, e2⟩ := h.room
  obtain ⟨n1, n2, n3, n4, n5, n6⟩ := h.ne
  have e5 := h.ord
  have e6 := h.nxt
  refine ⟨⟨⟨dx, ?_⟩, ?_⟩, h.ok, s, h.tup, upd_same, ⟨kvs, ?_, l3, fun i hi => k3 i (sub i hi)⟩, ?_, ⟨ps, ?_, l4, k4⟩, h.ne, fun b x e => ?_, h.free⟩
  · rw [upd_ne (fun z => by rw [z, e5] at e1; cases e1)]
    exact e1
  · rw [upd_ne n1]
    exact e2
  · rw [upd_ne (fun z => by rw [z, e5] at e3; cases e3)]
    exact e3
  · rw [upd_ne n4.symm]
    exact e6
  · rw [upd_ne n5.symm]
    exact e4
  · rw [upd_ne (ne_of_none e (h.free o (by simp)))]
    exact h.sub b x e
end
/-! #### _law_refused -/
def sp_l_refused (K : PySem.W.Frag) (A : Adr) : Sp := fun vs H Q _ => ∃ (p r : Addr) (bxs : List (List Th)) (N : Nat) (c z : Int), vs = [.ref p, .int c, .int z] ∧ RoomAt A.c_Room H p r bxs N ∧ RoomOk bxs N ∧ z.natAbs < 10 ^ 60 ∧ (∀ k, k < bxs.length → (plT bxs k : Int) ≠ z) ∧ ∀ H', Same H H' → Q (.bl true) H'
theorem ok_l_refused (T : Txt K mg A) : FnOk P w K mg base CX0 6 A.f_l_refused A.d_l_refused ["_law_room", "_law_call", "_law_place"] (sp_l_refused K A) := by
  refine T.F_l_refused.ok sc_l_refused (fun vs H Q E h => by obtain ⟨p, r, bxs, N, c, z, rfl, R, ok, hz1, hz, k⟩ := h; rfl) (fun cdv A' outer s H vs Q E hr h => ⟨_, (pss_cons (ps_try_only rfl rfl ⟨rfl, by decide, .inl T.m_NoBox⟩ takes0 (fun W pn xe tk _ => (pss_one (ps_if (pt_cmpR op_eq (pv 1) pe_int (nomark _))
  (pss_one (ps_expr (pe_methT (pv 0) T.clR T.me_Rtold (ok_RtoldX T) (hr.mono (by decide)) T.b_Rtold (fun σ => passAt tk σ) (pa_cons (pv 2) pa_nil))))
  (pss_one (ps_if (pt_cmpR op_eq (pv 1) pe_int (nomark _))
  (pss_one (ps_expr (pe_methT (pv 0) T.clR T.me_Rmade (ok_RmadeX T) (hr.mono (by decide)) T.b_Rmade (fun σ => passAt tk σ) (pa_cons (pe_lst (pa_cons (pe_tup (pa_cons pe_str (pa_cons pe_int pa_nil))) (pa_cons (pe_tup (pa_cons pe_str (pa_cons (pv 2) pa_nil))) pa_nil))) pa_nil))))
  (pss_one (ps_expr (pe_methT (pv 0) T.clR T.me_Rput (ok_RputX T) (hr.mono (by decide)) T.b_Rput (fun σ => passAt tk σ) (pa_cons (pv 2) (pa_cons pe_int (pa_cons (pe_tup (pa_cons pe_str (pa_cons pe_int pa_nil))) pa_nil)))))))))))
  (fun _ _ _ _ _ _ _ => (pss_one (ps_ret pe_bl))))
  (pss_one (ps_ret pe_bl))), ?_⟩)
  obtain ⟨p, r, bxs, N, c, z, rfl, R, ok, hz1, hz, k⟩ := h
  obtain ⟨⟨dx, eo⟩, er⟩ := id R
  walk_at "rd"
  refine ite2 (fun _ => ?_) (fun _ => ?_)
  · walk_at "rd"
    refine ⟨p, dx, _, rfl, eo, rmf_no _ _ (by decide +kernel) (by decide +kernel), ?_⟩
    walk_at "rd"
    refine ⟨p, r, bxs, N, z, rfl, R, ok, hz, fun H1 s1 => ?_⟩
    refine ⟨true, T.ex_NoBox, fun _ a ha => ?_, fun q => nomatch q⟩
    walk_at "rd"
    exact k _ s1
  · walk_at "rd"
    refine ite2 (fun _ => ?_) (fun _ => ?_)
    · walk_at "rd"
      refine ⟨p, dx, _, rfl, eo, rmf_no _ _ (by decide +kernel) (by decide +kernel), ?_⟩
      walk_at "rd"
      refine ⟨by show 2 ≤ sizeLine; decide, fun t1 h1 => ?_⟩
      walk_at "rd"
      refine ⟨by show 2 ≤ sizeLine; decide, fun t2 h2 => ?_⟩
      walk_at "rd"
      refine ⟨by show 2 ≤ sizeLine; decide, fun l hl => ?_⟩
      have s1 := same_upd (o := .tup [V.str "number", V.int 1]) h1
      have s2 := same_upd (o := .tup [V.str "box", V.int z]) h2
      have s3 := same_upd (o := .lst [V.ref t1, V.ref t2]) hl
      have S := s1.trans (s2.trans s3)
      refine ⟨p, r, l, t1, t2, bxs, N, 1, z, rfl, R.same S, ok, upd_same, (s2.trans s3) _ _ upd_same, s3 _ _ upd_same, by decide, hz1, hz, fun H1 s4 => ?_⟩
      refine ⟨true, T.ex_NoBox, fun _ a ha => ?_, fun q => nomatch q⟩
      walk_at "rd"
      exact k _ (S.trans s4)
    · walk_at "rd"
      refine ⟨p, dx, _, rfl, eo, rmf_no _ _ (by decide +kernel) (by decide +kernel), ?_⟩
      walk_at "rd"
      refine ⟨by show 2 ≤ sizeLine; decide, fun t1 h1 => ?_⟩
      have s1 := same_upd (o := .tup [V.str "number", V.int 1]) h1
      refine ⟨p, r, bxs, N, z, _, _, rfl, R.same s1, ok, hz, fun H1 s4 => ?_⟩
      refine ⟨true, T.ex_NoBox, fun _ a ha => ?_, fun q => nomatch q⟩
      walk_at "rd"
      exact k _ (s1.trans s4)
/-! #### _law_no_boxes -/
def sp_l_no_boxes (K : PySem.W.Frag) (A : Adr) : Sp := fun vs H Q _ => ∃ (D0 : Hp) (p r o f nx kp sa b : Addr) (ids : List Nat) (fl : Nat → List Th) (N fresh c : Nat) (s : Int) (bs : List Nat), vs = [.ref p, .ref sa, .int s, .ref b] ∧ SI A.c_Room D0 H p r o f nx kp sa ids fl N fresh c ∧
    H b = some (.lst (bs.map natV)) ∧ 0 < bs.length ∧ bs.length ≤ 400 ∧ (∀ x ∈ bs, x ≤ 1000) ∧ ∀ H', Same H H' → Q (.bl true) H'
theorem ok_l_no_boxes (T : Txt K mg A) : FnOk P w K mg base CX0 7 A.f_l_no_boxes A.d_l_no_boxes ["_law_room", "_law_state", "_law_seed", "_law_before"] (sp_l_no_boxes K A) := by
  refine T.F_l_no_boxes.ok sc_l_no_boxes (fun vs H Q E h => by obtain ⟨D0, p, r, o, f, nx, kp, sa, b, ids, fl, N, fresh, c, s, bs, rfl, I, eb, hb0, hb4, hbx, k⟩ := h; rfl) (fun cdv A' outer s H vs Q E hr h => ⟨_, (pss_cons (ps_set (i := 4) sc_l_no_boxes.nd rfl (.inr rfl) (pe_call (ok_l_places_of T) (hr.mono (by decide)) (by rfl) T.m__law_places_of T.F_l_places_of.kp T.b_l_places_of .nil pass0 (pa_cons (pe_ix (ix_tupK (K := K) rfl) (pv 1) pe_int (fun _ _ => rfl)) (pa_cons (pe_ix (ix_tupK (K := K) rfl) (pv 1) pe_int (fun _ _ => rfl)) pa_nil))))
  (pss_cons (ps_setLc (i := 5) (own := [("_law_one", 6)]) (g := gName 6) rfl sc_l_no_boxes.nd rfl rfl (sw_true rfl rfl rfl (by decide +kernel)) (pi_listK (K := K) rfl (pe_ix (ix_tupK (K := K) rfl) (pv 1) pe_int (fun _ _ => rfl))) (blkOk_by (own := [("_law_one", 6)]) (N := ["_law_room", "_law_state", "_law_seed", "_law_before", "_law_places", "_law_every", "_law_one", "_law_asked", "_law_k"]) (sc := defScope s_l_no_boxes) (by decide +kernel)) (fun _ _ _ _ _ => pg_name (i := 6) sc_l_no_boxes.nd rfl (.inl rfl)) (fun _ _ _ _ _ => pts_nil) (fun _ _ _ _ _ => (pe_dget (hu_of hr) (pv 4) (pv 6) (fun _ _ => rfl))))
  (pss_cons (ps_set (i := 7) sc_l_no_boxes.nd rfl (.inl rfl) (pe_op op_cat (pe_op op_cat (pe_lc (own := [("_law_k", 8)]) (g := gName 8) rfl sc_l_no_boxes.nd (pi_range1 rfl T.z_range (pa_cons pe_int pa_nil)) (blkOk_by (own := [("_law_k", 8)]) (N := ["_law_room", "_law_state", "_law_seed", "_law_before", "_law_places", "_law_every", "_law_one", "_law_asked", "_law_k"]) (sc := defScope s_l_no_boxes) (by decide +kernel)) (fun _ _ _ _ _ => pg_name (i := 8) sc_l_no_boxes.nd rfl (.inl rfl)) (fun _ _ _ _ _ => pts_nil) (fun _ _ _ _ _ => (pe_op op_subI (pe_op op_modI (pe_op op_addI (pv 2) (pe_op op_mulI pe_int (pv 8))) (pe_op op_addI (pe_ix (ix_tupK (K := K) rfl) (pv 1) pe_int (fun _ _ => rfl)) pe_int)) pe_int))) (pe_slice (sl_listK (K := K) rfl) (pe_slice (sl_listK (K := K) rfl) (pv 3) (po_some (pe_op op_modI (pv 2) (pe_callB (call_lenK (K := K) rfl) (by rfl) T.z_len (by decide +kernel) (pa_cons (pv 3) pa_nil)))) po_none) po_none (po_some pe_int))) (pe_slice (sl_listK (K := K) rfl) (pv 3) (po_some (pe_un un_neg pe_int)) po_none)))
  (pss_cons (ps_for PassesOwn.never rfl (pi_range1 rfl T.z_range (pa_cons (pe_callB (call_lenK (K := K) rfl) (by rfl) T.z_len (by decide +kernel) (pa_cons (pv 7) pa_nil)) pa_nil)) (pg_name (i := 8) sc_l_no_boxes.nd rfl (.inl rfl))
  (pss_one (ps_if (PW.pt (pw_and (pt_cmpR (op_notInK (K := K) rfl) (pe_ix (ix_listK (K := K) rfl) (pv 7) (pv 8) (fun _ _ => rfl)) (pv 5) (by rfl)) (pw_and1 (pt_not (pt_val (pe_call (ok_l_refused T) (hr.mono (by decide)) (by rfl) T.m__law_refused T.F_l_refused.kp T.b_l_refused .nil pass0 (pa_cons (pv 0) (pa_cons (pe_op op_modI (pe_op op_addI (pv 2) (pv 8)) pe_int) (pa_cons (pe_ix (ix_listK (K := K) rfl) (pv 7) (pv 8) (fun _ _ => rfl)) pa_nil)))))))))
  (pss_one (ps_ret pe_bl))
  pss_nil)))
  (pss_one (ps_ret pe_bl)))))), ?_⟩)
  obtain ⟨D0, p, r, o, f, nx, kp, sa, b, ids, fl, N, fresh, c, s, bs, rfl, I, eb, hb0, hb4, hbx, k⟩ := h
  have hlen := I.len
  have h400 := I.ok.le
  have hsz := I.ok.sz
  -- the places
  walk_at "rd"
  refine ⟨sa, _, 0, .ref o, rfl, rfl, .of I.stup, rfl, ?_⟩
  walk_at "rd"
  refine ⟨sa, _, 1, .ref f, rfl, rfl, .of I.stup, rfl, ?_⟩
  refine ⟨o, f, ids, fl, rfl, I.ord, I.fd, I.st.nd, by omega, fun g H1 hg s1 Pg => ?_⟩
  have I1 := I.grow s1
  obtain ⟨gvs, eg, kg⟩ := id Pg
  -- every
  walk_at "rd"
  refine ⟨sa, _, 0, .ref o, rfl, rfl, .of I1.stup, rfl, ?_⟩
  walk_at "rd"
  refine ⟨⟨_, .of I1.ord⟩, fun D hD => lc_list (K := K) (a := o) (xs := ids.map natV) (fun j H' => Same H1 H' ∧ H' D = some (.lst (((ids.take j).map (plI ids fl)).map natV))) ⟨same_upd hD, upd_same⟩ (fun j H' _ p => .of (p.1 _ _ I1.ord)) (fun j x H' hx p => ?_) (fun H2 p => ?_)⟩
  · obtain ⟨a, ha, rfl⟩ := nat_get hx
    refine ⟨rfl, ?_⟩
    walk_at "rd"
    refine ⟨g, natV (plI ids fl a), rfl, dget (p.1 _ _ eg) (kg a (List.mem_of_getElem? ha)), ?_⟩
    refine ⟨_, p.2, sz2001 (by rw [List.length_map, List.length_map, List.length_take]; omega), same_mut hD p.1, ?_⟩
    rw [upd_same, List.take_add_one, ha, Option.toList_some, List.map_append, List.map_append]
    rfl
  obtain ⟨p1, p2⟩ := p
  rw [List.length_map, List.take_length] at p2
  have S2 := s1.trans p1
  have I2 := I1.grow p1
  have eb2 := S2 _ _ eb
  have ev := p2
  clear p2 p1 hD eg kg gvs Pg I1 s1 hg
  -- asked
  walk_at "rd"
  refine ⟨by decide, by decide, fun E1 hE1 => lc_range (lo := 0) (n := _) (fun i H' => ∃ zs : List Int, zs.length = i ∧ (∀ z ∈ zs, -1 ≤ z ∧ z ≤ 1000) ∧ Same H2 H' ∧ H' E1 = some (.lst (zs.map V.int))) ⟨[], rfl, fun _ z => (nomatch z), same_upd hE1, upd_same⟩ (fun i H' hi p => ?_) (fun H3 p => ?_)⟩
  · obtain ⟨zs, lz, bz, S, eE⟩ := p
    have hi6 : i < 6 := hi
    refine ⟨rfl, ?_⟩
    rw [show (0 : Int) + (i : Int) = (i : Int) from Int.zero_add _]
    walk_at "rd"
    refine ⟨sa, _, 2, .int (N : Int), rfl, rfl, .of (S _ _ I2.stup), rfl, ?_⟩
    walk_at "rd"
    refine ⟨by omega, ?_⟩
    have h1 := Int.emod_nonneg (s + 31 * (i : Int)) (show ((N : Int) + 3) ≠ 0 by omega)
    have h2 := Int.emod_lt_of_pos (s + 31 * (i : Int)) (show (0 : Int) < (N : Int) + 3 by omega)
    walk_at "rd"
    refine ⟨_, eE, sz2001 (by rw [List.length_map]; omega), zs ++ [(s + 31 * (i : Int)) % ((N : Int) + 3) - 1], by simp [lz], fun z hz => ?_, same_mut hE1 S, ?_⟩
    · rcases List.mem_append.mp hz with q | q
      · exact bz z q
      · rw [List.mem_singleton.mp q]
        omega
    · rw [upd_same, List.map_append]
      rfl
  obtain ⟨zs, lz, bz, S3, eE⟩ := p
  have lz6 : zs.length = 6 := lz
  have eb3 := S3 _ _ eb2
  walk_at "rd"
  refine ⟨b, _, rfl, .inl (.of eb3), ?_⟩
  rw [List.length_map]
  walk_at "rd"
  refine ⟨by omega, ?_⟩
  walk_at "rd"
  refine ⟨b, _, rfl, .of eb3, fun q1 hq1 => ?_⟩
  have t1 := fun o => same_upd (o := o) hq1
  walk_at "rd"
  refine ⟨q1, _, rfl, .of upd_same, fun q2 hq2 => ?_⟩
  have t2 := fun o => same_upd (o := o) hq2
  obtain ⟨ys, eys⟩ : ∃ ys, ys = cutV (cutV (bs.map natV) (some (s % (bs.length : Int))) none) none (some 6) := ⟨_, rfl⟩
  have hys : ∀ v ∈ ys, v ∈ bs.map natV := fun v hv => by
    rw [eys] at hv
    exact cut_mem (cut_mem hv)
  have lys : ys.length ≤ 400 := by
    have h1 := cutV_length (cutV (bs.map natV) (some (s % (bs.length : Int))) none) none (some 6)
    have h2 := cutV_length (bs.map natV) (some (s % (bs.length : Int))) none
    rw [List.length_map] at h2
    rw [eys]
    omega
  rw [← eys]
  have e1 := (t2 (.lst ys)) _ _ ((t1 (.lst (cutV (bs.map natV) (some (s % (bs.length : Int))) none))) _ _ eE)
  refine ⟨E1, q2, _, _, rfl, rfl, e1, upd_same, sz2000 (by rw [List.length_map]; omega), fun q3 hq3 => ?_⟩
  have t3 := fun o => same_upd (o := o) hq3
  have T3 := (t1 (.lst (cutV (bs.map natV) (some (s % (bs.length : Int))) none))).trans ((t2 (.lst ys)).trans (t3 (.lst (zs.map V.int ++ ys))))
  have eb4 := T3 _ _ eb3
  walk_at "rd"
  refine ⟨b, _, rfl, .of eb4, fun q4 hq4 => ?_⟩
  have t4 := fun o => same_upd (o := o) hq4
  obtain ⟨xs, exs⟩ : ∃ xs, xs = cutV (bs.map natV) (some (-2)) none := ⟨_, rfl⟩
  have hxs : ∀ v ∈ xs, v ∈ bs.map natV := fun v hv => by
    rw [exs] at hv
    exact cut_mem hv
  have lxs : xs.length ≤ 400 := by
    have h1 := cutV_length (bs.map natV) (some (-2)) none
    rw [List.length_map] at h1
    rw [exs]
    omega
  rw [← exs]
  refine ⟨q3, q4, _, _, rfl, rfl, (t4 (.lst xs)) _ _ upd_same, upd_same, sz2000 (by rw [List.length_append, List.length_map]; omega), fun q5 hq5 => ?_⟩
  have t5 := fun o => same_upd (o := o) hq5
  have T5 := S3.trans (T3.trans ((t4 (.lst xs)).trans (t5 (.lst (zs.map V.int ++ ys ++ xs)))))
  obtain ⟨as, eas⟩ : ∃ as, as = zs.map V.int ++ ys ++ xs := ⟨_, rfl⟩
  have las : as.length ≤ 1000 := by
    rw [eas, List.length_append, List.length_append, List.length_map]
    omega
  have has : ∀ v ∈ as, ∃ z : Int, v = .int z ∧ z.natAbs < 10 ^ 60 := fun v hv => by
    rw [eas] at hv
    have old : v ∈ bs.map natV → ∃ z : Int, v = .int z ∧ z.natAbs < 10 ^ 60 := fun h => by
      obtain ⟨x, hx, rfl⟩ := List.mem_map.mp h
      have := hbx x hx
      exact ⟨(x : Int), rfl, by omega⟩
    rcases List.mem_append.mp hv with h | h
    · rcases List.mem_append.mp h with h | h
      · obtain ⟨x, hx, rfl⟩ := List.mem_map.mp h
        have := bz x hx
        exact ⟨x, rfl, by omega⟩
      · exact old (hys v h)
    · exact old (hxs v h)
  rw [← eas] at T5 ⊢
  have S5 := S2.trans T5
  have I5 := I2.grow T5
  have ev5 := T5 _ _ ev
  have ea5 : (upd (upd (upd (upd (upd H3 q1 (.lst (cutV (bs.map natV) (some (s % (bs.length : Int))) none))) q2 (.lst ys)) q3 (.lst (zs.map V.int ++ ys))) q4 (.lst xs)) q5 (.lst as)) q5 = some (.lst as) := upd_same
  revert S5 I5 ev5 ea5
  generalize (upd (upd (upd (upd (upd H3 q1 (.lst (cutV (bs.map natV) (some (s % (bs.length : Int))) none))) q2 (.lst ys)) q3 (.lst (zs.map V.int ++ ys))) q4 (.lst xs)) q5 (.lst as)) = H5
  intro S5 I5 ev5 ea5
  clear T5 t5 hq5 t4 hq4 eb4 T3 t3 hq3 e1 t2 hq2 t1 hq1 eb3 eE S3 lz lz6 bz eb2 ev I2 S2 hys lys eys hxs lxs exs eas
  -- each of them
  walk_at "rd"
  refine ⟨q5, _, rfl, .inl (.of ea5), ?_⟩
  walk_at "rd"
  refine ⟨by omega, by omega, ?_⟩
  refine for_range (lo := 0) (n := _) (fun i σ' H' => ∃ y8 : Option V, σ' = [some (.ref p), some (.ref sa), some (.int s), some (.ref b), some (.ref g), some (.ref D), none, some (.ref q5), y8] ∧ Same H5 H') ⟨none, rfl, Same.refl _⟩ ?_ ?_
  · rintro i σ' H' hi ⟨y8, rfl, S⟩
    have hi2 : i < as.length := by omega
    rw [show (0 : Int) + (i : Int) = (i : Int) from Int.zero_add _]
    have gi := List.getElem?_eq_getElem hi2
    obtain ⟨z, ez, hz⟩ := has as[i] (List.getElem_mem hi2)
    rw [ez] at gi
    walk_at "rd"
    refine ⟨q5, _, (i : Int), .int z, rfl, rfl, .of (S _ _ ea5), atI_nat gi, ?_⟩
    walk_at "rd"
    refine ⟨D, _, rfl, .inl (.of (S _ _ ev5)), rfl, flat_nats _, ?_⟩
    walk_at "rd"
    by_cases hm : inV (.int z) ((ids.map (plI ids fl)).map natV) = true
    · refine ifF ?_ ⟨_, rfl, S⟩
      show (!inV (.int z) ((ids.map (plI ids fl)).map natV)) = false
      rw [hm]
      rfl
    · have hm2 : inV (.int z) ((ids.map (plI ids fl)).map natV) = false := by simpa using hm
      refine ifT ?_ ?_
      · show (!inV (.int z) ((ids.map (plI ids fl)).map natV)) = true
        rw [hm2]
        rfl
      walk_at "rd"
      refine ⟨q5, _, (i : Int), .int z, rfl, rfl, .of (S _ _ ea5), atI_nat gi, ?_⟩
      have I6 := I5.grow S
      refine ⟨p, r, bxsOf ids fl, N, _, z, rfl, I6.room, I6.ok, hz, no_place I6.st.nd (fun o ho e => ?_), fun H7 s7 => ?_⟩
      · refine hm ?_
        unfold inV
        refine List.any_eq_true.mpr ⟨natV (plI ids fl o), List.mem_map.mpr ⟨_, List.mem_map.mpr ⟨o, ho, rfl⟩, rfl⟩, ?_⟩
        show ((plI ids fl o : Int) == z) = true
        rw [e]
        exact beq_self_eq_true z
      · walk_at "rd"
        exact S.trans s7
  · rintro σ' H' ⟨y8, rfl, S⟩
    walk_at "rd"
    exact k _ (S5.trans S)
theorem map_natV (l : List Nat) : l.map natV = (l.map fun k : Nat => (k : Int)).map V.int := by
  rw [List.map_map]
  rfl
/-! #### _law_stands -/
def sp_l_stands (K : PySem.W.Frag) (A : Adr) : Sp := fun vs H Q _ => ∃ (D0 : Hp) (p r o f nx kp sa : Addr) (ids : List Nat) (fl : Nat → List Th) (N fresh c : Nat), vs = [.ref p, .ref sa] ∧ SI A.c_Room D0 H p r o f nx kp sa ids fl N fresh c ∧ c ≤ 40000 ∧
    ∀ D' H', Same D0 D' → SI A.c_Room D' H' p r o f nx kp sa ids fl N fresh (c + 6) → Q (.bl true) H'
theorem ok_l_stands (T : Txt K mg A) : FnOk P w K mg base CX0 6 A.f_l_stands A.d_l_stands ["_law_room", "_law_state"] (sp_l_stands K A) := by
  refine T.F_l_stands.ok sc_l_stands (fun vs H Q E h => by obtain ⟨D0, p, r, o, f, nx, kp, sa, ids, fl, N, fresh, c, rfl, I, hc, k⟩ := h; rfl) (fun cdv A' outer s H vs Q E hr h => ⟨_, (pss_cons (ps_set (i := 2) sc_l_stands.nd rfl (.inl rfl) (pe_callB (cr_sumK (K := K) rfl rfl) (by rfl) T.z_sum (by decide +kernel) (pa_cons (pe_lc (own := [("_law_one", 3)]) (g := gName 3) rfl sc_l_stands.nd (pi_listK (K := K) rfl (pe_ix (ix_tupK (K := K) rfl) (pv 1) pe_int (fun _ _ => rfl))) (blkOk_by (own := [("_law_one", 3)]) (N := ["_law_room", "_law_state", "_law_used", "_law_one", "_law_places", "_law_found", "_law_pair"]) (sc := defScope s_l_stands) (by decide +kernel)) (fun _ _ _ _ _ => pg_name (i := 3) sc_l_stands.nd rfl (.inl rfl)) (fun _ _ _ _ _ => pts_nil) (fun _ _ _ _ _ => (pe_op op_addI pe_int (pe_callB (call_lenK (K := K) rfl) (by rfl) T.z_len (by decide +kernel) (pa_cons (pe_dget (hu_of hr) (pe_ix (ix_tupK (K := K) rfl) (pv 1) pe_int (fun _ _ => rfl)) (pv 3) (fun _ _ => rfl)) pa_nil))))) pa_nil)))
  (pss_cons (ps_set (i := 4) sc_l_stands.nd rfl (.inr rfl) (pe_call (ok_l_places_of T) (hr.mono (by decide)) (by rfl) T.m__law_places_of T.F_l_places_of.kp T.b_l_places_of .nil pass0 (pa_cons (pe_ix (ix_tupK (K := K) rfl) (pv 1) pe_int (fun _ _ => rfl)) (pa_cons (pe_ix (ix_tupK (K := K) rfl) (pv 1) pe_int (fun _ _ => rfl)) pa_nil))))
  (pss_cons (ps_if (PW.pt (pw_or (pt_not (pt_val (pe_call (ok_l_words_are T) (hr.mono (by decide)) (by rfl) T.m__law_words_are T.F_l_words_are.kp T.b_l_words_are .nil pass0 (pa_cons (pe_lst (pa_cons (pe_meth0 (pv 0) T.clR T.me_Rused (ok_Rused T) (hr.mono (by decide)) T.b_Rused .nil pass0) pa_nil)) (pa_cons (pe_lst (pa_cons (pv 2) pa_nil)) pa_nil))))) (pw_or1 (pt_not (pt_val (pe_call (ok_l_told T) (hr.mono (by decide)) (by rfl) T.m__law_told T.F_l_told.kp T.b_l_told .nil pass0 (pa_cons (pv 0) (pa_cons (pv 1) pa_nil))))))))
  (pss_one (ps_ret pe_bl))
  pss_nil)
  (pss_cons (ps_if (pt_not (pt_val (pe_call (ok_l_words_are T) (hr.mono (by decide)) (by rfl) T.m__law_words_are T.F_l_words_are.kp T.b_l_words_are .nil pass0 (pa_cons (pe_meth0 (pv 0) T.clR T.me_Rplaces (ok_Rplaces T) (hr.mono (by decide)) T.b_Rplaces .nil pass0) (pa_cons (pe_lc (own := [("_law_one", 3)]) (g := gName 3) rfl sc_l_stands.nd (pi_listK (K := K) rfl (pe_ix (ix_tupK (K := K) rfl) (pv 1) pe_int (fun _ _ => rfl))) (blkOk_by (own := [("_law_one", 3)]) (N := ["_law_room", "_law_state", "_law_used", "_law_one", "_law_places", "_law_found", "_law_pair"]) (sc := defScope s_l_stands) (by decide +kernel)) (fun _ _ _ _ _ => pg_name (i := 3) sc_l_stands.nd rfl (.inl rfl)) (fun _ _ _ _ _ => pts_nil) (fun _ _ _ _ _ => (pe_dget (hu_of hr) (pv 4) (pv 3) (fun _ _ => rfl)))) pa_nil)))))
  (pss_one (ps_ret pe_bl))
  pss_nil)
  (pss_cons (ps_if (pt_not (pt_val (pe_call (ok_l_words_are T) (hr.mono (by decide)) (by rfl) T.m__law_words_are T.F_l_words_are.kp T.b_l_words_are .nil pass0 (pa_cons (pe_meth0 (pv 0) T.clR T.me_Rcome_to (ok_Rcome_to T) (hr.mono (by decide)) T.b_Rcome_to .nil pass0) (pa_cons (pe_lc (own := [("_law_one", 3)]) (g := gName 3) rfl sc_l_stands.nd (pi_listK (K := K) rfl (pe_call (ok_l_come_to T) (hr.mono (by decide)) (by rfl) T.m__law_come_to T.F_l_come_to.kp T.b_l_come_to .nil pass0 (pa_cons (pe_ix (ix_tupK (K := K) rfl) (pv 1) pe_int (fun _ _ => rfl)) (pa_cons (pe_ix (ix_tupK (K := K) rfl) (pv 1) pe_int (fun _ _ => rfl)) pa_nil)))) (blkOk_by (own := [("_law_one", 3)]) (N := ["_law_room", "_law_state", "_law_used", "_law_one", "_law_places", "_law_found", "_law_pair"]) (sc := defScope s_l_stands) (by decide +kernel)) (fun _ _ _ _ _ => pg_name (i := 3) sc_l_stands.nd rfl (.inl rfl)) (fun _ _ _ _ _ => pts_nil) (fun _ _ _ _ _ => (pe_dget (hu_of hr) (pv 4) (pv 3) (fun _ _ => rfl)))) pa_nil)))))
  (pss_one (ps_ret pe_bl))
  pss_nil)
  (pss_cons (ps_for PassesOwn.never rfl (pi_listK (K := K) rfl (pe_lst (pa_cons (pe_meth0 (pv 0) T.clR T.me_Rcells (ok_Rcells T) (hr.mono (by decide)) T.b_Rcells .nil pass0) (pa_cons (pe_meth0 (pv 0) T.clR T.me_Rplaces (ok_Rplaces T) (hr.mono (by decide)) T.b_Rplaces .nil pass0) (pa_cons (pe_meth0 (pv 0) T.clR T.me_Rcome_to (ok_Rcome_to T) (hr.mono (by decide)) T.b_Rcome_to .nil pass0) (pa_cons (pe_meth (pv 0) T.clR T.me_Rtold (ok_Rtold T) (hr.mono (by decide)) T.b_Rtold .nil pass0 (pa_cons pe_int pa_nil)) pa_nil)))))) (pg_name (i := 5) sc_l_stands.nd rfl (.inl rfl))
  (pss_cons (ps_expr (pe_bm PySem.F.plainAttrs_list PySem.F.slot_list_append PySem.F.type_list_append mt_append (pv 5) (pa_cons pe_int pa_nil)))
  (pss_one (ps_expr (pe_bm PySem.F.plainAttrs_list PySem.F.slot_list_append PySem.F.type_list_append mt_append (pe_ix (ix_tupK (K := K) rfl) (pv 1) pe_int (fun _ _ => rfl)) (pa_cons (pe_tup (pa_cons (pv 5) (pa_cons (pe_callTy (call_list_ofK (K := K) rfl) (by rfl) T.z_list (by decide +kernel) (pa_cons (pv 5) pa_nil)) pa_nil))) pa_nil))))))
  (pss_cons (ps_if (pt_not (pt_val (pe_call (ok_l_words_are T) (hr.mono (by decide)) (by rfl) T.m__law_words_are T.F_l_words_are.kp T.b_l_words_are .nil pass0 (pa_cons (pe_meth0 (pv 0) T.clR T.me_Rplaces (ok_Rplaces T) (hr.mono (by decide)) T.b_Rplaces .nil pass0) (pa_cons (pe_lc (own := [("_law_one", 3)]) (g := gName 3) rfl sc_l_stands.nd (pi_listK (K := K) rfl (pe_ix (ix_tupK (K := K) rfl) (pv 1) pe_int (fun _ _ => rfl))) (blkOk_by (own := [("_law_one", 3)]) (N := ["_law_room", "_law_state", "_law_used", "_law_one", "_law_places", "_law_found", "_law_pair"]) (sc := defScope s_l_stands) (by decide +kernel)) (fun _ _ _ _ _ => pg_name (i := 3) sc_l_stands.nd rfl (.inl rfl)) (fun _ _ _ _ _ => pts_nil) (fun _ _ _ _ _ => (pe_dget (hu_of hr) (pv 4) (pv 3) (fun _ _ => rfl)))) pa_nil)))))
  (pss_one (ps_ret pe_bl))
  pss_nil)
  (pss_cons (ps_if (pt_not (pt_val (pe_call (ok_l_told T) (hr.mono (by decide)) (by rfl) T.m__law_told T.F_l_told.kp T.b_l_told .nil pass0 (pa_cons (pv 0) (pa_cons (pv 1) pa_nil)))))
  (pss_one (ps_ret pe_bl))
  pss_nil)
  (pss_cons (ps_if (pt_not (pt_val (pe_call (ok_l_words_are T) (hr.mono (by decide)) (by rfl) T.m__law_words_are T.F_l_words_are.kp T.b_l_words_are .nil pass0 (pa_cons (pe_meth0 (pv 0) T.clR T.me_Rcells (ok_Rcells T) (hr.mono (by decide)) T.b_Rcells .nil pass0) (pa_cons (pe_call (ok_l_cells_of T) (hr.mono (by decide)) (by rfl) T.m__law_cells_of T.F_l_cells_of.kp T.b_l_cells_of .nil pass0 (pa_cons (pe_ix (ix_tupK (K := K) rfl) (pv 1) pe_int (fun _ _ => rfl)) (pa_cons (pe_ix (ix_tupK (K := K) rfl) (pv 1) pe_int (fun _ _ => rfl)) (pa_cons (pe_ix (ix_tupK (K := K) rfl) (pv 1) pe_int (fun _ _ => rfl)) pa_nil)))) pa_nil)))))
  (pss_one (ps_ret pe_bl))
  pss_nil)
  (pss_one (ps_ret (pe_cmpR op_eq (pe_callB (call_lenK (K := K) rfl) (by rfl) T.z_len (by decide +kernel) (pa_cons (pe_lc (own := [("_law_pair", 6)]) (g := gName 6) rfl sc_l_stands.nd (pi_listK (K := K) rfl (pe_ix (ix_tupK (K := K) rfl) (pv 1) pe_int (fun _ _ => rfl))) (blkOk_by (own := [("_law_pair", 6)]) (N := ["_law_room", "_law_state", "_law_used", "_law_one", "_law_places", "_law_found", "_law_pair"]) (sc := defScope s_l_stands) (by decide +kernel)) (fun _ _ _ _ _ => pg_name (i := 6) sc_l_stands.nd rfl (.inl rfl)) (fun _ _ _ _ _ => (pts_one (pt_cmpR (op_neDK (K := K) rfl hr.units) (pe_ix (ix_tupK (K := K) rfl) (pv 6) pe_int (fun _ _ => rfl)) (pe_ix (ix_tupK (K := K) rfl) (pv 6) pe_int (fun _ _ => rfl)) (nomark _)))) (fun _ _ _ _ _ => (pv 6))) pa_nil)) pe_int (nomark _))))))))))))), ?_⟩)
  obtain ⟨D0, p, r, o, f, nx, kp, sa, ids, fl, N, fresh, c, rfl, I, hc, k⟩ := h
  have hlen := I.len
  have h400 := I.ok.le
  have hsz := I.ok.sz
  have hlens := len_le_size (bxsOf ids fl)
  -- how many cells are used
  walk_at "rd"
  refine ⟨sa, _, 0, .ref o, rfl, rfl, .of I.stup, rfl, ?_⟩
  walk_at "rd"
  obtain ⟨kvs, ef, kf⟩ := I.fd
  refine ⟨⟨_, .of I.ord⟩, fun D hD => lc_list (K := K) (a := o) (xs := ids.map natV) (fun i H' => Same H H' ∧ H' D = some (.lst ((((bxsOf ids fl).take i).map fun fs => (1 : Int) + (fs.length : Int)).map V.int))) ⟨same_upd hD, upd_same⟩ (fun i H' _ p => .of (p.1 _ _ I.ord)) (fun i x H' hx p => ?_) (fun H1 p => ?_)⟩
  · obtain ⟨a, ha, rfl⟩ := nat_get hx
    obtain ⟨l, el, F⟩ := kf a (List.mem_of_getElem? ha)
    obtain ⟨ts, ets, lts, _⟩ := id F
    have hi := (List.getElem?_eq_some_iff.mp ha).1
    refine ⟨rfl, ?_⟩
    walk_at "rd"
    refine ⟨sa, _, 1, .ref f, rfl, rfl, .of (p.1 _ _ I.stup), rfl, ?_⟩
    walk_at "rd"
    refine ⟨f, .ref l, rfl, dget (p.1 _ _ ef) el, ?_⟩
    refine ⟨l, _, rfl, .inl (.of (p.1 _ _ ets)), ?_⟩
    rw [List.length_map, lts]
    walk_at "rd"
    refine ⟨_, p.2, sz2001 (by rw [List.length_map, List.length_map, List.length_take]; omega), same_mut hD p.1, ?_⟩
    rw [upd_same, List.take_add_one, bxsOf_at ha, Option.toList_some, List.map_append, List.map_append, List.map_cons, List.length_map]
    rfl
  obtain ⟨p1, p2⟩ := p
  rw [List.length_map, ← bxsOf_len ids fl, List.take_length] at p2
  refine ⟨D, _, rfl, .of p2, ?_⟩
  rw [sum_sizes]
  have I1 := I.grow p1
  clear p2 p1 hD ef kf
  -- the places
  walk_at "rd"
  refine ⟨sa, _, 0, .ref o, rfl, rfl, .of I1.stup, rfl, ?_⟩
  walk_at "rd"
  refine ⟨sa, _, 1, .ref f, rfl, rfl, .of I1.stup, rfl, ?_⟩
  refine ⟨o, f, ids, fl, rfl, I1.ord, I1.fd, I1.st.nd, by omega, fun g H2 hg s2 Pg => ?_⟩
  have I2 := I1.grow s2
  have gOut := I1.out (t := g) (.inl hg)
  obtain ⟨⟨dx, eo⟩, er⟩ := id I2.room
  -- used
  walk_at "rd"
  refine ⟨p, dx, _, rfl, eo, rmf_no _ _ (by decide +kernel) (by decide +kernel), ?_⟩
  walk_at "rd"
  refine ⟨p, r, bxsOf ids fl, N, rfl, I2.room, ?_⟩
  refine ⟨by show 1 ≤ sizeLine; decide, fun a1 h1 => ?_⟩
  walk_at "rd"
  refine ⟨by show 1 ≤ sizeLine; decide, fun a2 h2 => ?_⟩
  have s3 := fun o => (same_upd (o := .lst [V.int (sizeT (bxsOf ids fl) : Int)]) h1).trans (same_upd (o := o) h2)
  have n12 : a1 ≠ a2 := fun z => by rw [← z, upd_same] at h2; cases h2
  refine ⟨a1, a2, [(sizeT (bxsOf ids fl) : Int)], rfl, .of (by rw [upd_ne n12, upd_same]; rfl), .of upd_same, by show 1 ≤ 2000; decide, fun H3 s4 => ?_⟩
  have I3 := I2.grow ((s3 _).trans s4)
  have Pg3 := Pg.same ((s3 (.lst [V.int (sizeT (bxsOf ids fl) : Int)])).trans s4)
  walk_at "rd"
  refine ⟨fz [p, r, o, f, nx, kp] H3, p, r, o, f, nx, kp, sa, ids, fl, N, fresh, c, rfl, I3.up, by omega, fun D4 H4 sD4 I4 => ?_⟩
  have Pg4 : PdAt D4 g ids (plI ids fl) := by
    obtain ⟨gvs, eg, kg⟩ := Pg3
    exact ⟨gvs, sD4 _ _ (by rw [fz_out gOut]; exact eg), kg⟩
  have sD := I3.sub2.trans sD4
  clear Pg3 I3 s4 n12 s3 h2 h1 eo er dx Pg gOut I2 s2 hg sD4
  -- places
  obtain ⟨gvs, eg, kg⟩ := id Pg4
  obtain ⟨⟨dx, eo⟩, er⟩ := id I4.room
  walk_at "rd"
  refine ⟨p, dx, _, rfl, eo, rmf_no _ _ (by decide +kernel) (by decide +kernel), ?_⟩
  walk_at "rd"
  refine ⟨p, r, bxsOf ids fl, N, rfl, I4.room, I4.ok, fun q H5 hq s5 eq => ?_⟩
  have I5 := I4.grow s5
  walk_at "rd"
  refine ⟨sa, _, 0, .ref o, rfl, rfl, .of I5.stup, rfl, ?_⟩
  walk_at "rd"
  refine ⟨⟨_, .of I5.ord⟩, fun D hD => lc_list (K := K) (a := o) (xs := ids.map natV) (fun j H' => Same H5 H' ∧ H' D = some (.lst (((ids.take j).map (plI ids fl)).map natV))) ⟨same_upd hD, upd_same⟩ (fun j H' _ p => .of (p.1 _ _ I5.ord)) (fun j x H' hx p => ?_) (fun H6 p => ?_)⟩
  · obtain ⟨a, ha, rfl⟩ := nat_get hx
    refine ⟨rfl, ?_⟩
    walk_at "rd"
    refine ⟨g, natV (plI ids fl a), rfl, dget (p.1 _ _ (I5.sub _ _ eg)) (kg a (List.mem_of_getElem? ha)), ?_⟩
    refine ⟨_, p.2, sz2001 (by rw [List.length_map, List.length_map, List.length_take]; omega), same_mut hD p.1, ?_⟩
    rw [upd_same, List.take_add_one, ha, Option.toList_some, List.map_append, List.map_append]
    rfl
  obtain ⟨p1, p2⟩ := p
  rw [List.length_map, List.take_length, map_natV] at p2
  rw [places_ids I4.st.nd, map_natV] at eq
  refine ⟨q, D, _, rfl, .of (p1 _ _ eq), .of p2, by rw [List.length_map, List.length_map]; omega, fun H7 s7 => ?_⟩
  have I7 := I5.grow (p1.trans s7)
  clear s7 p2 p1 hD eq s5 hq I5 eo er dx
  -- those come to
  obtain ⟨⟨dx, eo⟩, er⟩ := id I7.room
  walk_at "rd"
  refine ⟨p, dx, _, rfl, eo, rmf_no _ _ (by decide +kernel) (by decide +kernel), ?_⟩
  walk_at "rd"
  refine ⟨p, r, bxsOf ids fl, N, rfl, I7.room, I7.ok, fun q H8 hq s8 eq => ?_⟩
  have I8 := I7.grow s8
  walk_at "rd"
  refine ⟨sa, _, 0, .ref o, rfl, rfl, .of I8.stup, rfl, ?_⟩
  walk_at "rd"
  refine ⟨sa, _, 1, .ref f, rfl, rfl, .of I8.stup, rfl, ?_⟩
  refine ⟨o, f, ids, fl, fresh, rfl, I8.ord, I8.fd, I8.st, by omega, fun q9 H9 hq9 s9 eq9 => ?_⟩
  have hkl : (kin ids fl).length ≤ 400 := by
    unfold kin
    have := List.length_filter_le (fun o => aliveT (bxsOf ids fl) (ids.idxOf o)) ids
    omega
  walk_at "rd"
  refine ⟨⟨_, .of eq9⟩, fun D hD => lc_list (K := K) (a := q9) (xs := (kin ids fl).map natV) (fun j H' => Same H9 H' ∧ H' D = some (.lst ((((kin ids fl).take j).map (plI ids fl)).map natV))) ⟨same_upd hD, upd_same⟩ (fun j H' _ p => .of (p.1 _ _ eq9)) (fun j x H' hx p => ?_) (fun H10 p => ?_)⟩
  · obtain ⟨a, ha, rfl⟩ := nat_get hx
    refine ⟨rfl, ?_⟩
    walk_at "rd"
    refine ⟨g, natV (plI ids fl a), rfl, dget (p.1 _ _ (s9 _ _ (I8.sub _ _ eg))) (kg a (((kin_mem I.st).mp (List.mem_of_getElem? ha)).mem I.st)), ?_⟩
    refine ⟨_, p.2, sz2001 (by rw [List.length_map, List.length_map, List.length_take]; omega), same_mut hD p.1, ?_⟩
    rw [upd_same, List.take_add_one, ha, Option.toList_some, List.map_append, List.map_append]
    rfl
  obtain ⟨p1, p2⟩ := p
  rw [List.length_map, List.take_length, map_natV] at p2
  rw [← kin_places I7.st.nd, map_natV] at eq
  refine ⟨q, D, _, rfl, .of (p1 _ _ (s9 _ _ eq)), .of p2, by rw [List.length_map, List.length_map]; omega, fun H11 s11 => ?_⟩
  have I11 := I8.grow (s9.trans (p1.trans s11))
  clear s11 p2 p1 hD eq9 s9 hq9 I8 eq s8 hq eo er dx
  -- four lists are changed and kept
  obtain ⟨⟨dx, eo⟩, er⟩ := id I11.room
  walk_at "rd"
  refine ⟨p, dx, _, rfl, eo, rmf_no _ _ (by decide +kernel) (by decide +kernel), ?_⟩
  walk_at "rd"
  refine ⟨p, r, bxsOf ids fl, N, rfl, I11.room, fun q1 g1 => ?_⟩
  have t1 := same_upd (o := .lst ((enc (bxsOf ids fl) N).map V.int)) g1
  walk_at "rd"
  refine ⟨p, dx, _, rfl, t1 _ _ eo, rmf_no _ _ (by decide +kernel) (by decide +kernel), ?_⟩
  walk_at "rd"
  refine ⟨p, r, bxsOf ids fl, N, rfl, I11.room.same t1, I11.ok, fun q2 G2 g2 t2 e2 => ?_⟩
  have t12 := t1.trans t2
  walk_at "rd"
  refine ⟨p, dx, _, rfl, t12 _ _ eo, rmf_no _ _ (by decide +kernel) (by decide +kernel), ?_⟩
  walk_at "rd"
  refine ⟨p, r, bxsOf ids fl, N, rfl, I11.room.same t12, I11.ok, fun q3 G3 g3 t3 e3 => ?_⟩
  have t13 := t12.trans t3
  walk_at "rd"
  refine ⟨p, dx, _, rfl, t13 _ _ eo, rmf_no _ _ (by decide +kernel) (by decide +kernel), ?_⟩
  walk_at "rd"
  refine ⟨p, r, bxsOf ids fl, N, 0, (fl 0).map (ixT ids), rfl, I11.room.same t13, I11.ok, bxsOf_at I.st.hd, fun q4 G4 g4 t4 F4 => ?_⟩
  obtain ⟨ts4, e4, l4, k4⟩ := id F4
  have hl4 : ts4.length ≤ 400 := by
    have := sizeT_field (bxsOf_at (fl := fl) I.st.hd)
    rw [List.length_map] at this l4
    rw [List.length_map] at l4
    omega
  have t14 := t13.trans t4
  refine ⟨by show 4 ≤ sizeLine; decide, fun L hL => ?_⟩
  have t5 := same_upd (o := .lst [V.ref q1, .ref q2, .ref q3, .ref q4]) hL
  have m1 : G4 q1 = some (.lst ((enc (bxsOf ids fl) N).map V.int)) := t4 _ _ (t3 _ _ (t2 _ _ upd_same))
  have m2 := t4 _ _ (t3 _ _ e2)
  have m3 := t4 _ _ e3
  have n21 : q2 ≠ q1 := fun z => by rw [z, upd_same] at g2; cases g2
  have n31 : q3 ≠ q1 := fun z => by rw [z, t2 _ _ upd_same] at g3; cases g3
  have n32 : q3 ≠ q2 := fun z => by rw [z, e2] at g3; cases g3
  have n41 : q4 ≠ q1 := fun z => by rw [z, t3 _ _ (t2 _ _ upd_same)] at g4; cases g4
  have n42 : q4 ≠ q2 := fun z => by rw [z, t3 _ _ e2] at g4; cases g4
  have n43 : q4 ≠ q3 := fun z => by rw [z, e3] at g4; cases g4
  have f1 : H11 q1 = none := g1
  have f2 : H11 q2 = none := t1.free g2
  have f3 : H11 q3 = none := t12.free g3
  have f4 : H11 q4 = none := t13.free g4
  have fL : H11 L = none := t14.free hL
  have eL : (upd G4 L (.lst [V.ref q1, .ref q2, .ref q3, .ref q4])) L = some (.lst [V.ref q1, .ref q2, .ref q3, .ref q4]) := upd_same
  have I12 := I11.grow (t14.trans t5)
  have M1 := t5 _ _ m1
  have M2 := t5 _ _ m2
  have M3 := t5 _ _ m3
  have M4 := t5 _ _ e4
  have k5 : ∀ (i : Nat) (t : Addr) (th : Th), ts4[i]? = some t → (((fl 0).map (ixT ids)).map (toPl (bxsOf ids fl)))[i]? = some th → (upd G4 L (.lst [V.ref q1, .ref q2, .ref q3, .ref q4])) t = some (.tup (thV th)) := fun i t th a b => t5 _ _ (k4 i t th a b)
  have nL1 : q1 ≠ L := ne_of_none m1 hL
  have nL2 : q2 ≠ L := ne_of_none m2 hL
  have nL3 : q3 ≠ L := ne_of_none m3 hL
  have nL4 : q4 ≠ L := ne_of_none e4 hL
  clear k4 F4 m3 m2 m1 hL e3 e2 t5
  revert eL I12 M1 M2 M3 M4 k5
  generalize (upd G4 L (.lst [V.ref q1, .ref q2, .ref q3, .ref q4])) = G5
  intro eL I12 M1 M2 M3 M4 k5
  have mx4 := mix_fields l4 k5
  have rt : ∀ x ∈ refsOf (ts4.map V.ref), ∃ xs, G5 x = some (.tup xs) := fun x hx => by
    rcases mx4 _ (mem_refs hx) with ⟨i, z⟩ | ⟨u, th, z, eu⟩
    · cases z
    · cases z
      exact ⟨_, eu⟩
  have qOut : ∀ x ∈ [q1, q2, q3, q4], x ∉ [p, r, o, f, nx, kp] := fun x hx => by
    simp only [List.mem_cons, List.not_mem_nil, or_false] at hx
    rcases hx with z | z | z | z
    · rw [z]; exact I11.out (.inl f1)
    · rw [z]; exact I11.out (.inl f2)
    · rw [z]; exact I11.out (.inl f3)
    · rw [z]; exact I11.out (.inl f4)
  have LOut := I11.out (.inl fL)
  have I13 := I12.wide (D' := plus D4 G5 (L :: refsOf (ts4.map V.ref))) plus_sub (plus_le I12.sub) fun x hx => plus_out (I12.free x hx) fun z => by
    rcases List.mem_cons.mp z with z | z
    · exact LOut (z ▸ hx)
    · obtain ⟨xs, e⟩ := rt x z
      exact I12.out (.inr ⟨xs, e⟩) hx
  have pn : ∀ x ∈ [q1, q2, q3, q4], H11 x = none → x ≠ L → (∃ vs, G5 x = some (.lst vs)) → (plus D4 G5 (L :: refsOf (ts4.map V.ref))) x = none := fun x _ h1 h2 ⟨vs, h3⟩ => plus_out (I11.sub.free h1) fun z => by
    rcases List.mem_cons.mp z with z | z
    · exact h2 z
    · obtain ⟨xs, e⟩ := rt x z
      rw [h3] at e
      cases e
  have D5L : (plus D4 G5 (L :: refsOf (ts4.map V.ref))) L = some (.lst [V.ref q1, .ref q2, .ref q3, .ref q4]) := by
    rw [plus_in I12.sub (by simp)]
    exact eL
  have mx5 : MixAt (plus D4 G5 (L :: refsOf (ts4.map V.ref))) (ts4.map V.ref) := fun v hv => by
    rcases mx4 v hv with z | ⟨u, th, ev, eu⟩
    · exact .inl z
    · refine .inr ⟨u, th, ev, ?_⟩
      rw [plus_in I12.sub (List.mem_cons_of_mem _ (refs_mem (ev ▸ hv)))]
      exact eu
  have s45 : Same D4 (plus D4 G5 (L :: refsOf (ts4.map V.ref))) := plus_sub
  have P1 := pn q1 (by simp) f1 nL1 ⟨_, M1⟩
  have P2 := pn q2 (by simp) f2 nL2 ⟨_, M2⟩
  have P3 := pn q3 (by simp) f3 nL3 ⟨_, M3⟩
  have P4 := pn q4 (by simp) f4 nL4 ⟨_, M4⟩
  revert I13 D5L mx5 s45 P1 P2 P3 P4
  generalize (plus D4 G5 (L :: refsOf (ts4.map V.ref))) = D5
  intro I13 D5L mx5 s45 P1 P2 P3 P4
  have intMix : ∀ (D : Hp) (l : List Nat), MixAt D (l.map natV) := fun D l v hv => by
    obtain ⟨x, _, rfl⟩ := List.mem_map.mp hv
    exact .inl ⟨_, rfl⟩
  have intMix2 : ∀ (D : Hp) (l : List Int), MixAt D (l.map V.int) := fun D l v hv => by
    obtain ⟨x, _, rfl⟩ := List.mem_map.mp hv
    exact .inl ⟨_, rfl⟩
  have start : ∀ (j : Nat) (x : Addr), [q1, q2, q3, q4][j]? = some x → D5 x = none ∧ ∃ vs, G5 x = some (.lst vs) ∧ vs.length ≤ 1000 ∧ MixAt D5 vs := fun j x hx => by
    match j, hx with
    | 0, hx =>
      cases Option.some.inj (show some q1 = some x from hx)
      exact ⟨P1, _, M1, by rw [List.length_map, enc_len hsz]; omega, intMix2 _ _⟩
    | 1, hx =>
      cases Option.some.inj (show some q2 = some x from hx)
      exact ⟨P2, _, M2, by rw [List.length_map, placesT_len, bxsOf_len]; omega, intMix _ _⟩
    | 2, hx =>
      cases Option.some.inj (show some q3 = some x from hx)
      exact ⟨P3, _, M3, by rw [List.length_map, ← kin_places I.st.nd, List.length_map]; omega, intMix _ _⟩
    | 3, hx =>
      cases Option.some.inj (show some q4 = some x from hx)
      exact ⟨P4, _, M4, by rw [List.length_map]; omega, mx5⟩
    | j + 4, hx => exact absurd hx (by simp)
  have qnd : [q1, q2, q3, q4].Nodup := by simp [n21.symm, n31.symm, n32.symm, n41.symm, n42.symm, n43.symm]
  have Pg5 := Pg4.same s45
  have sD5 := sD.trans s45
  clear P1 P2 P3 P4 M1 M2 M3 M4 mx5 mx4 rt pn I12 eL k5 nL1 nL2 nL3 nL4 fL f1 f2 f3 f4 n21 n31 n32 n41 n42 n43 t14 t13 t12 t1 t2 t3 t4 g1 g2 g3 g4 e4 l4 I11 eo er dx s45 sD Pg4 eg kg gvs I4 LOut
  walk_at "rd"
  refine ⟨⟨_, .of (I13.sub _ _ D5L)⟩, for_list (K := K) (a := L) (xs := [q1, q2, q3, q4].map V.ref) (fun i σ' H' => ∃ (D' : Hp) (y5 : Option V), σ' = [some (.ref p), some (.ref sa), some (.int (sizeT (bxsOf ids fl))), none, some (.ref g), y5, none] ∧ Same D5 D' ∧ SI A.c_Room D' H' p r o f nx kp sa ids fl N fresh (c + 1 + i) ∧ ∀ (j : Nat) (x : Addr), i ≤ j → [q1, q2, q3, q4][j]? = some x → D' x = none ∧ ∃ vs, H' x = some (.lst vs) ∧ vs.length ≤ 1000 ∧ MixAt D' vs)
    ⟨D5, none, rfl, Same.refl _, I13, fun j x _ hx => start j x hx⟩ (fun i σ' H' _ ⟨_, _, _, s, I', _⟩ => .of (I'.sub _ _ (s _ _ D5L))) ?_ ?_⟩
  · clear start I13
    rintro i x σ' H' hx ⟨D', y5, rfl, SD, I', pend⟩
    obtain ⟨q, hq, rfl⟩ := ref_get hx
    obtain ⟨Dq, vs, eq, lvs, mvs⟩ := pend i q (Nat.le_refl _) hq
    have qO := qOut q (List.mem_of_getElem? hq)
    have hi : i < 4 := (List.getElem?_eq_some_iff.mp hq).1
    walk_at "rd"
    refine ⟨.inl ⟨rfl, _, .of eq⟩, ?_⟩
    walk_at "rd"
    refine ⟨q, _, _, rfl, rfl, eq, sz2001 (by omega), ?_⟩
    have J1 := I'.mut (x := .lst (vs ++ [V.int 3])) Dq qO
    have oth : ∀ (j : Nat) (x : Addr), i + 1 ≤ j → [q1, q2, q3, q4][j]? = some x → x ≠ q := fun j x hj hjx z => by
      rw [z] at hjx
      have := nodup_get qnd hjx hq
      omega
    obtain ⟨ps0, ekp, lps0, _⟩ := J1.kept
    walk_at "rd"
    refine ⟨sa, _, 4, .ref kp, rfl, rfl, .of J1.stup, rfl, ?_⟩
    refine ⟨.inl ⟨rfl, _, .of ekp⟩, ?_⟩
    walk_at "rd"
    refine ⟨q, _, rfl, .inl (.of upd_same), fun b hb => ?_⟩
    refine ⟨by show 2 ≤ sizeLine; decide, fun t ht => ?_⟩
    have sb := same_upd (o := .lst (vs ++ [V.int 3])) hb
    have st := same_upd (o := .tup [.ref q, .ref b]) ht
    have nbt : b ≠ t := fun z => by rw [← z, upd_same] at ht; cases ht
    have eq2 : (upd H' q (.lst (vs ++ [V.int 3]))) q = some (.lst (vs ++ [V.int 3])) := upd_same
    obtain ⟨ps, ekp2, lps2, D2, sD2, J2, kn⟩ := (J1.grow (sb.trans st)).keep (a := q) (b := b) (t := t) (vs := vs ++ [V.int 3]) qO (J1.out (.inl hb)) upd_same ((sb.trans st) _ _ eq2) (by rw [upd_ne nbt, upd_same]) ((mix_three mvs 3).same (J1.sub.trans (sb.trans st)))
    refine ⟨kp, _, _, rfl, rfl, ekp2, sz2001 (by rw [List.length_map]; omega), ?_⟩
    refine ⟨D2, some (.ref q), rfl, SD.trans sD2, J2.more (by omega), fun j x hj hx => ?_⟩
    obtain ⟨Dx, ws, ex, lx, mx⟩ := pend j x (by omega) hx
    have nxq := oth j x hj hx
    have ex1 : (upd H' q (.lst (vs ++ [V.int 3]))) x = some (.lst ws) := by
      rw [upd_ne nxq]
      exact ex
    have ex2 := (sb.trans st) _ _ ex1
    have nxk : x ≠ kp := fun z => qOut x (List.mem_of_getElem? hx) (by rw [z]; simp)
    refine ⟨kn x Dx nxq (ne_of_none ex1 hb) (fun xs e => by rw [ex2] at e; cases e), ws, ?_, lx, mx.same sD2⟩
    rw [upd_ne nxk]
    exact ex2
  clear start I13
  rintro σ' H12 ⟨D6, y5, rfl, SD, I14, _⟩
  have Pg6 := Pg5.same SD
  have sD6 := sD5.trans SD
  have hc14 : c + 1 + ([q1, q2, q3, q4].map V.ref).length = c + 5 := rfl
  rw [hc14] at I14
  clear Pg5 sD5 SD qOut qnd D5L
  -- the places once more
  obtain ⟨gvs, eg, kg⟩ := id Pg6
  obtain ⟨⟨dx, eo⟩, er⟩ := id I14.room
  walk_at "rd"
  refine ⟨p, dx, _, rfl, eo, rmf_no _ _ (by decide +kernel) (by decide +kernel), ?_⟩
  walk_at "rd"
  refine ⟨p, r, bxsOf ids fl, N, rfl, I14.room, I14.ok, fun q H5 hq s5 eq => ?_⟩
  have I5 := I14.grow s5
  walk_at "rd"
  refine ⟨sa, _, 0, .ref o, rfl, rfl, .of I5.stup, rfl, ?_⟩
  walk_at "rd"
  refine ⟨⟨_, .of I5.ord⟩, fun D hD => lc_list (K := K) (a := o) (xs := ids.map natV) (fun j H' => Same H5 H' ∧ H' D = some (.lst (((ids.take j).map (plI ids fl)).map natV))) ⟨same_upd hD, upd_same⟩ (fun j H' _ p => .of (p.1 _ _ I5.ord)) (fun j x H' hx p => ?_) (fun H6 p => ?_)⟩
  · obtain ⟨a, ha, rfl⟩ := nat_get hx
    refine ⟨rfl, ?_⟩
    walk_at "rd"
    refine ⟨g, natV (plI ids fl a), rfl, dget (p.1 _ _ (I5.sub _ _ eg)) (kg a (List.mem_of_getElem? ha)), ?_⟩
    refine ⟨_, p.2, sz2001 (by rw [List.length_map, List.length_map, List.length_take]; omega), same_mut hD p.1, ?_⟩
    rw [upd_same, List.take_add_one, ha, Option.toList_some, List.map_append, List.map_append]
    rfl
  obtain ⟨p1, p2⟩ := p
  rw [List.length_map, List.take_length, map_natV] at p2
  rw [places_ids I14.st.nd, map_natV] at eq
  refine ⟨q, D, _, rfl, .of (p1 _ _ eq), .of p2, by rw [List.length_map, List.length_map]; omega, fun H7 s7 => ?_⟩
  have I7 := I5.grow (p1.trans s7)
  clear s7 p2 p1 hD eq s5 hq I5 eo er dx eg kg gvs Pg6 I14
  -- told once more
  walk_at "rd"
  refine ⟨D6, p, r, o, f, nx, kp, sa, ids, fl, N, fresh, c + 5, rfl, I7, by omega, fun D8 H8 sD8 I8 => ?_⟩
  have sD9 := sD6.trans sD8
  clear I7 sD6 sD8
  -- the cells
  obtain ⟨⟨dx, eo⟩, er⟩ := id I8.room
  walk_at "rd"
  refine ⟨p, dx, _, rfl, eo, rmf_no _ _ (by decide +kernel) (by decide +kernel), ?_⟩
  walk_at "rd"
  refine ⟨p, r, bxsOf ids fl, N, rfl, I8.room, fun q9 g9 => ?_⟩
  have I9 := I8.grow (same_upd (o := .lst ((enc (bxsOf ids fl) N).map V.int)) g9)
  walk_at "rd"
  refine ⟨sa, _, 0, .ref o, rfl, rfl, .of I9.stup, rfl, ?_⟩
  walk_at "rd"
  refine ⟨sa, _, 1, .ref f, rfl, rfl, .of I9.stup, rfl, ?_⟩
  walk_at "rd"
  refine ⟨sa, _, 2, .int (N : Int), rfl, rfl, .of I9.stup, rfl, ?_⟩
  refine ⟨o, f, ids, fl, N, fresh, rfl, I9.ord, I9.fd, I9.st, I9.ok, fun q10 H10 hq10 s10 eq10 => ?_⟩
  refine ⟨q9, q10, _, rfl, .of (s10 _ _ upd_same), .of eq10, by rw [enc_len hsz]; omega, fun H11 s11 => ?_⟩
  have I11 := I9.grow (s10.trans s11)
  clear s11 eq10 s10 hq10 I9 g9 eo er dx
  -- all that was kept
  obtain ⟨ps, ekp, lps, kps⟩ := I11.kept
  walk_at "rd"
  refine ⟨sa, _, 4, .ref kp, rfl, rfl, .of I11.stup, rfl, ?_⟩
  walk_at "rd"
  refine ⟨⟨_, .of ekp⟩, fun D hD => lc_list (K := K) (a := kp) (xs := ps.map V.ref) (fun j H' => Same H11 H' ∧ H' D = some (.lst [])) ⟨same_upd hD, upd_same⟩ (fun j H' _ p => .of (p.1 _ _ ekp)) (fun j x H' hx p => ?_) (fun H13 p => ?_)⟩
  · obtain ⟨t, ht, rfl⟩ := ref_get hx
    obtain ⟨a, b, vs, e1, e2, e3, mx⟩ := (kps t (List.mem_of_getElem? ht)).same (I11.sub.trans p.1)
    obtain ⟨ds, da, fd⟩ := mix_data (K := K) mx
    refine ⟨rfl, ?_⟩
    walk_at "rd"
    refine ⟨t, _, 0, .ref a, rfl, rfl, .of e1, rfl, ?_⟩
    walk_at "rd"
    refine ⟨t, _, 1, .ref b, rfl, rfl, .of e1, rfl, ?_⟩
    refine ⟨.list ds, .list ds, .lst (.of e2) da, .lst (.of e3) da, (fine_list fd).1, (fine_list fd).1, ?_⟩
    walk_at "rd"
    refine ifF (by rw [(fine_list fd).2]; rfl) ?_
    exact p
  refine ⟨D, _, rfl, .inl (.of p.2), ?_⟩
  walk_at "rd"
  exact k D8 _ sD9 (I11.grow p.1)
/-! #### _law_made -/
def sp_l_made (K : PySem.W.Frag) (A : Adr) : Sp := fun vs H Q _ => ∃ (D0 : Hp) (p r o f nx kp sa : Addr) (ids : List Nat) (fl : Nat → List Th) (N fresh c : Nat) (cl s : Int), vs = [.ref p, .ref sa, .int cl, .int s] ∧ SI A.c_Room D0 H p r o f nx kp sa ids fl N fresh c ∧ c ≤ 40000 ∧ Builtin.Int.intBits s ≤ 1000 ∧
    ∀ D' H' r' ids' fl' fresh', Same D0 D' → SI A.c_Room D' H' p r' o f nx kp sa ids' fl' N fresh' (c + 2) → Q (.bl true) H'
theorem ok_l_made (T : Txt K mg A) : FnOk P w K mg base CX0 6 A.f_l_made A.d_l_made ["_law_room", "_law_state", "_law_cell", "_law_seed"] (sp_l_made K A) := by
  refine T.F_l_made.ok sc_l_made (fun vs H Q E h => by obtain ⟨D0, p, r, o, f, nx, kp, sa, ids, fl, N, fresh, c, cl, s, rfl, I, hc, hb, k⟩ := h; rfl) (fun cdv A' outer s H vs Q E hr h => ⟨_, (pss_cons (ps_set (i := 4) sc_l_made.nd rfl (.inr rfl) (pe_ix (ix_tupK (K := K) rfl) (pv 1) pe_int (fun _ _ => rfl)))
  (pss_cons (ps_set (i := 5) sc_l_made.nd rfl (.inr rfl) (pe_ix (ix_tupK (K := K) rfl) (pv 1) pe_int (fun _ _ => rfl)))
  (pss_cons (ps_setLc (i := 6) (own := [("_law_k", 7)]) (g := gName 7) rfl sc_l_made.nd rfl rfl (sw_true rfl rfl rfl (by decide +kernel)) (pi_range1 rfl T.z_range (pa_cons (pe_call (ok_l_many T) (hr.mono (by decide)) (by rfl) T.m__law_many T.F_l_many.kp T.b_l_many .nil pass0 (pa_cons (pv 2) (pa_cons (pv 3) pa_nil))) pa_nil)) (blkOk_by (own := [("_law_k", 7)]) (N := ["_law_room", "_law_state", "_law_cell", "_law_seed", "_law_order", "_law_fields", "_law_seeds", "_law_k", "_law_things", "_law_one", "_law_places", "_law_used", "_law_due", "_law_thing_here", "_law_handed_here", "_law_found", "_law_fresh"]) (sc := defScope s_l_made) (by decide +kernel)) (fun _ _ _ _ _ => pg_name (i := 7) sc_l_made.nd rfl (.inl rfl)) (fun _ _ _ _ _ => pts_nil) (fun _ _ _ _ _ => (pe_op op_modI (pe_op op_mulI (pe_op op_addI (pv 3) (pe_op op_mulI pe_int (pv 7))) pe_int) pe_int)))
  (pss_cons (ps_setLc (i := 8) (own := [("_law_one", 9)]) (g := gName 9) rfl sc_l_made.nd rfl rfl (sw_true rfl rfl rfl (by decide +kernel)) (pi_listK (K := K) rfl (pv 6)) (blkOk_by (own := [("_law_one", 9)]) (N := ["_law_room", "_law_state", "_law_cell", "_law_seed", "_law_order", "_law_fields", "_law_seeds", "_law_k", "_law_things", "_law_one", "_law_places", "_law_used", "_law_due", "_law_thing_here", "_law_handed_here", "_law_found", "_law_fresh"]) (sc := defScope s_l_made) (by decide +kernel)) (fun _ _ _ _ _ => pg_name (i := 9) sc_l_made.nd rfl (.inl rfl)) (fun _ _ _ _ _ => pts_nil) (fun _ _ _ _ _ => (pe_call (ok_l_thing T) (hr.mono (by decide)) (by rfl) T.m__law_thing T.F_l_thing.kp T.b_l_thing .nil pass0 (pa_cons (pv 9) (pa_cons (pv 4) pa_nil)))))
  (pss_cons (ps_set (i := 10) sc_l_made.nd rfl (.inr rfl) (pe_call (ok_l_places_of T) (hr.mono (by decide)) (by rfl) T.m__law_places_of T.F_l_places_of.kp T.b_l_places_of .nil pass0 (pa_cons (pv 4) (pa_cons (pv 5) pa_nil))))
  (pss_cons (ps_set (i := 11) sc_l_made.nd rfl (.inl rfl) (pe_callB (cr_sumK (K := K) rfl rfl) (by rfl) T.z_sum (by decide +kernel) (pa_cons (pe_lc (own := [("_law_one", 9)]) (g := gName 9) rfl sc_l_made.nd (pi_listK (K := K) rfl (pv 4)) (blkOk_by (own := [("_law_one", 9)]) (N := ["_law_room", "_law_state", "_law_cell", "_law_seed", "_law_order", "_law_fields", "_law_seeds", "_law_k", "_law_things", "_law_one", "_law_places", "_law_used", "_law_due", "_law_thing_here", "_law_handed_here", "_law_found", "_law_fresh"]) (sc := defScope s_l_made) (by decide +kernel)) (fun _ _ _ _ _ => pg_name (i := 9) sc_l_made.nd rfl (.inl rfl)) (fun _ _ _ _ _ => pts_nil) (fun _ _ _ _ _ => (pe_op op_addI pe_int (pe_callB (call_lenK (K := K) rfl) (by rfl) T.z_len (by decide +kernel) (pa_cons (pe_dget (hu_of hr) (pv 5) (pv 9) (fun _ _ => rfl)) pa_nil))))) pa_nil)))
  (pss_cons (ps_setLc (i := 12) (own := [("_law_thing_here", 13)]) (g := gName 13) rfl sc_l_made.nd rfl rfl (sw_true rfl rfl rfl (by decide +kernel)) (pi_listK (K := K) rfl (pv 8)) (blkOk_by (own := [("_law_thing_here", 13)]) (N := ["_law_room", "_law_state", "_law_cell", "_law_seed", "_law_order", "_law_fields", "_law_seeds", "_law_k", "_law_things", "_law_one", "_law_places", "_law_used", "_law_due", "_law_thing_here", "_law_handed_here", "_law_found", "_law_fresh"]) (sc := defScope s_l_made) (by decide +kernel)) (fun _ _ _ _ _ => pg_name (i := 13) sc_l_made.nd rfl (.inl rfl)) (fun _ _ _ _ _ => pts_nil) (fun _ _ _ _ _ => (pe_call (ok_l_handed T) (hr.mono (by decide)) (by rfl) T.m__law_handed T.F_l_handed.kp T.b_l_handed .nil pass0 (pa_cons (pv 13) (pa_cons (pv 10) pa_nil)))))
  (pss_cons (ps_set (i := 14) sc_l_made.nd rfl (.inl rfl) (pe_callTy (call_list_ofK (K := K) rfl) (by rfl) T.z_list (by decide +kernel) (pa_cons (pv 12) pa_nil)))
  (pss_cons (ps_try_only rfl rfl ⟨rfl, by decide, .inl T.m_NoRoom⟩ takes0 (fun W pn xe tk _ => (pss_one (ps_set (i := 15) sc_l_made.nd rfl (.inl rfl) (pe_methT (pv 0) T.clR T.me_Rmade (ok_Rmade T) (hr.mono (by decide)) T.b_Rmade (fun σ => passAt tk σ) (pa_cons (pv 14) pa_nil)))))
  (fun _ _ _ _ _ _ _ => (pss_one (ps_ret (pe_and (pe_cmpR op_gtI (pe_op op_addI (pe_op op_addI (pv 11) pe_int) (pe_callB (call_lenK (K := K) rfl) (by rfl) T.z_len (by decide +kernel) (pa_cons (pv 8) pa_nil))) (pe_ix (ix_tupK (K := K) rfl) (pv 1) pe_int (fun _ _ => rfl)) (nomark _)) (pe_one (pe_cmpR (op_eqDK (K := K) rfl hr.units) (pv 14) (pv 12) (nomark _))))))))
  (pss_cons (ps_if (pt_cmpR (op_neDK (K := K) rfl hr.units) (pv 14) (pv 12) (nomark _))
  (pss_one (ps_ret pe_bl))
  pss_nil)
  (pss_cons (ps_expr (pe_bm PySem.F.plainAttrs_list PySem.F.slot_list_append PySem.F.type_list_append mt_append (pv 14) (pa_cons (pe_tup (pa_cons pe_str (pa_cons pe_int pa_nil))) pa_nil)))
  (pss_cons (ps_expr (pe_bm PySem.F.plainAttrs_list PySem.F.slot_list_append PySem.F.type_list_append mt_append (pe_ix (ix_tupK (K := K) rfl) (pv 1) pe_int (fun _ _ => rfl)) (pa_cons (pe_tup (pa_cons (pv 14) (pa_cons (pe_callTy (call_list_ofK (K := K) rfl) (by rfl) T.z_list (by decide +kernel) (pa_cons (pv 14) pa_nil)) pa_nil))) pa_nil)))
  (pss_cons (ps_if (PW.pt (pw_or (pt_cmpR op_gtI (pe_op op_addI (pe_op op_addI (pv 11) pe_int) (pe_callB (call_lenK (K := K) rfl) (by rfl) T.z_len (by decide +kernel) (pa_cons (pv 8) pa_nil))) (pe_ix (ix_tupK (K := K) rfl) (pv 1) pe_int (fun _ _ => rfl)) (nomark _)) (pw_or (pt_not (pt_val (pe_call (ok_l_is_int T) (hr.mono (by decide)) (by rfl) T.m__law_is_int T.F_l_is_int.kp T.b_l_is_int .nil pass0 (pa_cons (pv 15) pa_nil)))) (pw_or1 (pt_cmpR op_ne (pv 15) (pv 11) (nomark _))))))
  (pss_one (ps_ret pe_bl))
  pss_nil)
  (pss_cons (ps_set (i := 16) sc_l_made.nd rfl (.inl rfl) (pe_ix (ix_listK (K := K) rfl) (pe_ix (ix_tupK (K := K) rfl) (pv 1) pe_int (fun _ _ => rfl)) pe_int (fun _ _ => rfl)))
  (pss_cons (ps_asg (pe_op op_addI (pv 16) pe_int) (pg_sub (pe_ix (ix_tupK (K := K) rfl) (pv 1) pe_int (fun _ _ => rfl)) pe_int set_list))
  (pss_cons (ps_expr (pe_bm PySem.F.plainAttrs_list PySem.F.slot_list_append PySem.F.type_list_append mt_append (pv 4) (pa_cons (pv 16) pa_nil)))
  (pss_cons (ps_dput (hu_of hr) (pv 5) (pv 16) (pv 8) rfl)
  (pss_one (ps_ret pe_bl))))))))))))))))))), ?_⟩)
  obtain ⟨D0, p, r, o, f, nx, kp, sa, ids, fl, N, fresh, c, cl, s, rfl, I, hc, hb, k⟩ := h
  have hlen := I.len
  have h400 := I.ok.le
  have hsz := I.ok.sz
  have hpos : 0 < ids.length := List.length_pos_of_mem (st_mem0 I.st)
  walk_at "rd"
  refine ⟨sa, _, 0, .ref o, rfl, rfl, .of I.stup, rfl, ?_⟩
  walk_at "rd"
  refine ⟨sa, _, 1, .ref f, rfl, rfl, .of I.stup, rfl, ?_⟩
  -- seeds
  walk_at "rd"
  refine fun m hm => ?_
  walk_at "rd"
  refine ⟨by omega, by omega, fun D1 hD1 => lc_range (lo := 0) (n := _) (fun i H' => ∃ zs : List Int, zs.length = i ∧ (∀ z ∈ zs, 0 ≤ z ∧ z < 999979) ∧ Same H H' ∧ H' D1 = some (.lst (zs.map V.int))) ⟨[], rfl, fun _ z => (nomatch z), same_upd hD1, upd_same⟩ (fun i H' hi p => ?_) (fun H1 p => ?_)⟩
  · obtain ⟨zs, lz, bz, S, eD⟩ := p
    refine ⟨rfl, ?_⟩
    rw [show (0 : Int) + (i : Int) = (i : Int) from Int.zero_add _]
    walk_at "rd"
    refine ⟨_, eD, sz2001 (by rw [List.length_map]; omega), zs ++ [(s + 977 * (i : Int)) * 16807 % 999979], by simp [lz], fun z hz => ?_, same_mut hD1 S, ?_⟩
    · rcases List.mem_append.mp hz with q | q
      · exact bz z q
      · rw [List.mem_singleton.mp q]
        exact ⟨Int.emod_nonneg _ (by decide), Int.emod_lt_of_pos _ (by decide)⟩
    · rw [upd_same, List.map_append]
      rfl
  obtain ⟨zs, lz, bz, S1, eD1⟩ := p
  have I1 := I.grow S1
  -- things
  walk_at "rd"
  refine ⟨⟨_, .of eD1⟩, fun T1 hT1 => lc_list (K := K) (a := D1) (xs := zs.map V.int) (fun i H' => ∃ ths : List Th, ths.length = i ∧ Same H1 H' ∧ FieldsAt H' T1 ths ∧ (∀ th ∈ ths, NumOk th) ∧ ∀ k, Th.box k ∈ ths → k ∈ ids) ⟨[], rfl, same_upd hT1, ⟨[], upd_same, rfl, fun j u th z => (nomatch z)⟩, fun _ z => (nomatch z), fun _ z => (nomatch z)⟩ (fun i H' _ ⟨_, _, s, _⟩ => .of (s _ _ eD1)) (fun i x H' hx p => ?_) (fun H2 p => ?_)⟩
  · obtain ⟨ths, lt, S, F, okt, vt⟩ := p
    obtain ⟨z, ez, rfl⟩ : ∃ z, zs[i]? = some z ∧ x = .int z := by
      rw [List.getElem?_map] at hx
      cases e : zs[i]? with
      | none => rw [e] at hx; cases hx
      | some z => rw [e] at hx; exact ⟨z, rfl, (Option.some.inj hx).symm⟩
    have hz := bz z (List.mem_of_getElem? ez)
    have hi := (List.getElem?_eq_some_iff.mp ez).1
    refine ⟨rfl, ?_⟩
    walk_at "rd"
    refine ⟨z, o, ids, rfl, S _ _ I1.ord, hpos, by omega, bits_iff.mpr (Nat.lt_of_lt_of_le (show z.natAbs < 2 ^ 20 by omega) (Nat.pow_le_pow_right (by decide) (by decide))), fun t H3 th ht s3 et okth vth => ?_⟩
    obtain ⟨ts, e5, l5, F5⟩ := (F.same s3).push et
    refine ⟨_, e5, sz2001 (by rw [List.length_map, l5]; omega), ths ++ [th], by simp [lt], same_mut hT1 (S.trans s3), ?_, fun x hx => ?_, fun k hk => ?_⟩
    · rw [List.map_append] at F5
      exact F5
    · rcases List.mem_append.mp hx with hx | hx
      · exact okt x hx
      · rw [List.mem_singleton.mp hx]
        exact okth
    · rcases List.mem_append.mp hk with hk | hk
      · exact vt k hk
      · exact vth k (List.mem_singleton.mp hk).symm
  obtain ⟨ths, lt, S2, F2, okt, vt⟩ := p
  rw [List.length_map] at lt
  have I2 := I1.grow S2
  have T1out := I1.out (t := T1) (.inl hT1)
  have hths : ths.length ≤ 400 := by omega
  clear eD1 S1 hD1 bz I1 hT1
  -- the places
  walk_at "rd"
  refine ⟨o, f, ids, fl, rfl, I2.ord, I2.fd, I2.st.nd, by omega, fun g H3 hg s3 Pg => ?_⟩
  have I3 := I2.grow s3
  have F3 := F2.same s3
  obtain ⟨kvs, ef, kf⟩ := I3.fd
  -- used
  walk_at "rd"
  refine ⟨⟨_, .of I3.ord⟩, fun D hD => lc_list (K := K) (a := o) (xs := ids.map natV) (fun i H' => Same H3 H' ∧ H' D = some (.lst ((((bxsOf ids fl).take i).map fun fs => (1 : Int) + (fs.length : Int)).map V.int))) ⟨same_upd hD, upd_same⟩ (fun i H' _ p => .of (p.1 _ _ I3.ord)) (fun i x H' hx p => ?_) (fun H4 p => ?_)⟩
  · obtain ⟨a, ha, rfl⟩ := nat_get hx
    obtain ⟨l, el, F⟩ := kf a (List.mem_of_getElem? ha)
    obtain ⟨ts, ets, lts, _⟩ := id F
    have hi := (List.getElem?_eq_some_iff.mp ha).1
    refine ⟨rfl, ?_⟩
    walk_at "rd"
    refine ⟨f, .ref l, rfl, dget (p.1 _ _ ef) el, ?_⟩
    refine ⟨l, _, rfl, .inl (.of (p.1 _ _ ets)), ?_⟩
    rw [List.length_map, lts]
    walk_at "rd"
    refine ⟨_, p.2, sz2001 (by rw [List.length_map, List.length_map, List.length_take]; omega), same_mut hD p.1, ?_⟩
    rw [upd_same, List.take_add_one, bxsOf_at ha, Option.toList_some, List.map_append, List.map_append, List.map_cons, List.length_map]
    rfl
  obtain ⟨p1, p2⟩ := p
  rw [List.length_map, ← bxsOf_len ids fl, List.take_length] at p2
  refine ⟨D, _, rfl, .of p2, ?_⟩
  rw [sum_sizes]
  have I4 := I3.grow p1
  have F4 := F3.same p1
  have Pg4 := Pg.same p1
  clear p2 p1 hD ef kf F3 I3 Pg s3 hg I2 F2 S2
  -- due
  obtain ⟨ts, ets, lts, kt⟩ := id F4
  walk_at "rd"
  refine ⟨⟨_, .of ets⟩, fun D hD => lc_list (K := K) (a := T1) (xs := ts.map V.ref) (fun j H2 => Same H4 H2 ∧ FieldsAt H2 D ((ths.take j).map (handT (plI ids fl)))) ⟨same_upd hD, [], upd_same, rfl, fun j u th z => (nomatch z)⟩ (fun j H2 _ p => .of (p.1 _ _ ets)) (fun j x H2 hx p => ?_) (fun H5 p => ?_)⟩
  · obtain ⟨t, et, rfl⟩ := ref_get hx
    have hj : j < ths.length := by
      have := (List.getElem?_eq_some_iff.mp et).1
      omega
    have eth := List.getElem?_eq_getElem hj
    have e3 := p.1 _ _ (kt j t _ et eth)
    refine ⟨rfl, ?_⟩
    walk_at "rd"
    refine ⟨t, g, _, ids, _, rfl, e3, Pg4.same p.1, fun k hk => vt k (hk ▸ List.mem_of_getElem? eth), fun t' H3 s3 e4 => ?_⟩
    obtain ⟨us, e5, l5, F5⟩ := (p.2.same s3).push e4
    refine ⟨_, e5, sz2001 (by rw [List.length_map, l5, List.length_map, List.length_take]; omega), same_mut hD (p.1.trans s3), ?_⟩
    rw [List.take_add_one, eth, Option.toList_some, List.map_append]
    rw [List.map_append] at F5
    exact F5
  obtain ⟨p1, p2⟩ := p
  rw [List.length_map, lts, List.take_length] at p2
  have I5 := I4.grow p1
  have F5 := F4.same p1
  clear lts kt ets ts Pg4 F4
  -- handed in
  obtain ⟨us, eus, lus, kus⟩ := id p2
  rw [List.length_map] at lus
  walk_at "rd"
  refine ⟨D, _, rfl, .inl (.of eus), fun q3 hq3 => ?_⟩
  have s6 := same_upd (o := .lst (us.map V.ref)) hq3
  have e63 : (upd H5 q3 (.lst (us.map V.ref))) q3 = some (.lst (us.map V.ref)) := upd_same
  have I6 := I5.grow s6
  have F6 := F5.same s6
  have P6 := p2.same s6
  have nDq : D ≠ q3 := ne_of_none eus hq3
  have nTq : T1 ≠ q3 := by
    obtain ⟨_, e0, _, _⟩ := F5
    exact ne_of_none e0 hq3
  have q3out := I5.out (t := q3) (.inl hq3)
  have D0q : D0 q3 = none := I5.sub.free hq3
  have k6 : ∀ (i : Nat) (t : Addr) (th : Th), us[i]? = some t → (ths.map (handT (plI ids fl)))[i]? = some th → (upd H5 q3 (.lst (us.map V.ref))) t = some (.tup (thV th)) := fun i t th a b => s6 _ _ (kus i t th a b)
  clear kus s6 hq3 F5 I5 p2 p1 eus hD I4
  revert e63 I6 F6 P6 k6
  generalize (upd H5 q3 (.lst (us.map V.ref))) = H6
  intro e63 I6 F6 P6 k6
  have Q6 : FieldsAt H6 q3 (ths.map (handT (plI ids fl))) := ⟨us, e63, by rw [List.length_map]; exact lus, k6⟩
  obtain ⟨⟨dx, eo⟩, er⟩ := id I6.room
  have hpl : ∀ k ∈ ids, plI ids fl k ≤ 400 := fun k hk => by
    have := sizeT_field (bxsOf_get (fl := fl) hk)
    unfold plI
    omega
  have okt' : ∀ th ∈ ths.map (ixT ids), OkTh (toPl (bxsOf ids fl) th) := fun th hth => by
    obtain ⟨t, ht, rfl⟩ := List.mem_map.mp hth
    rw [hand_pl]
    cases t with
    | num n => exact okt _ ht
    | box m =>
      have := hpl m (vt m ht)
      show plI ids fl m < 10 ^ 60
      omega
  have vt' : ∀ k, Th.box k ∈ ths.map (ixT ids) → k < (bxsOf ids fl).length := fun k hk => by
    obtain ⟨m, hm, rfl⟩ := ixT_box hk
    rw [bxsOf_len]
    exact List.idxOf_lt_length_of_mem (vt m hm)
  walk_at "rd"
  refine ⟨p, dx, _, rfl, eo, rmf_no _ _ (by decide +kernel) (by decide +kernel), ?_⟩
  walk_at "rd"
  refine ⟨p, r, q3, bxsOf ids fl, N, ths.map (ixT ids), rfl, I6.room, I6.ok, by rw [hand_pls]; exact Q6, okt', vt', by rw [List.length_map]; omega, fun hz r' H7 hr' R7 bt => ?_, fun hz H7 s7 => ?_⟩
  · have hz2 := hz
    rw [List.length_map] at hz
    have e73 := bt q3 _ e63 (fun z => by rw [z, eo] at e63; cases e63)
    have Q7 := fields_but Q6 bt eo
    have P7 := fields_but P6 bt eo
    obtain ⟨D1, sD1, J6, FD, kn1⟩ := SJ.addL I6 F6 T1out
    have D1q : D1 q3 = none := kn1 q3 D0q nTq.symm (fun xs e => by rw [e63] at e; cases e)
    have J7 := J6.roomNew (.inr hr') R7 (made_ok I6.ok vt' hz2) (fun b x e h1 _ => bt b x e h1)
    have q3out' : q3 ∉ [p, r', o, f, nx, kp] := fun z => by
      simp only [List.mem_cons, List.not_mem_nil, or_false] at z q3out
      rcases z with z | z | z | z | z | z
      · exact q3out (.inl z)
      · rw [← z, e63] at hr'
        cases hr'
      · exact q3out (.inr (.inr (.inl z)))
      · exact q3out (.inr (.inr (.inr (.inl z))))
      · exact q3out (.inr (.inr (.inr (.inr (.inl z)))))
      · exact q3out (.inr (.inr (.inr (.inr (.inr z)))))
    have mx7 : MixAt H7 (us.map V.ref) := mix_fields (fs := ths.map (handT (plI ids fl))) (by rw [List.length_map]; exact lus) fun i t th h1 h2 => by
      have e := k6 i t th h1 h2
      exact bt t _ e (fun z => by rw [z, eo] at e; cases e)
    walk_at "rd"
    refine ⟨.list ((ths.map (handT (plI ids fl))).map thD), .list ((ths.map (handT (plI ids fl))).map thD), dp_fields Q7, dp_fields P7, (ths_fine _).1, (ths_fine _).1, ?_⟩
    walk_at "rd"
    refine ifF (by rw [(ths_fine _).2]; rfl) ?_
    -- changed
    walk_at "rd"
    refine ⟨.inl ⟨rfl, _, .of e73⟩, ?_⟩
    walk_at "rd"
    refine ⟨by show 2 ≤ sizeLine; decide, fun t7 ht7 => ?_⟩
    have s7 := same_upd (o := .tup [V.str "number", V.int 7]) ht7
    have e83 := s7 _ _ e73
    refine ⟨q3, _, _, rfl, rfl, e83, sz2001 (by rw [List.length_map]; omega), ?_⟩
    have n7 : t7 ≠ q3 := (ne_of_none e73 ht7).symm
    have mx8 : MixAt (upd (upd H7 t7 (.tup [V.str "number", V.int 7])) q3 (.lst (us.map V.ref ++ [V.ref t7]))) (us.map V.ref ++ [V.ref t7]) := fun v hv => by
      rcases List.mem_append.mp hv with z | z
      · rcases mx7 v z with q | ⟨u, th, ev, eu⟩
        · exact .inl q
        · have e8 := s7 _ _ eu
          refine .inr ⟨u, th, ev, ?_⟩
          rw [upd_ne (show u ≠ q3 from fun w => by rw [w, e83] at e8; cases e8)]
          exact e8
      · refine .inr ⟨t7, .num 7, List.mem_singleton.mp z, ?_⟩
        rw [upd_ne n7]
        exact upd_same
    have e93 : (upd (upd H7 t7 (.tup [V.str "number", V.int 7])) q3 (.lst (us.map V.ref ++ [V.ref t7]))) q3 = some (.lst (us.map V.ref ++ [V.ref t7])) := upd_same
    have J8 := (J7.grow s7).mut (x := .lst (us.map V.ref ++ [V.ref t7])) D1q q3out'
    clear s7 e83 n7 mx7 ht7 Q7 P7 J7 J6 e73
    revert mx8 e93 J8
    generalize (upd (upd H7 t7 (.tup [V.str "number", V.int 7])) q3 (.lst (us.map V.ref ++ [V.ref t7]))) = H8
    intro mx8 e93 J8
    -- kept
    obtain ⟨ps0, ekp, lps0, kps0⟩ := J8.kept
    walk_at "rd"
    refine ⟨sa, _, 4, .ref kp, rfl, rfl, .of J8.stup, rfl, ?_⟩
    refine ⟨.inl ⟨rfl, _, .of ekp⟩, ?_⟩
    walk_at "rd"
    refine ⟨q3, _, rfl, .inl (.of e93), fun b hb => ?_⟩
    refine ⟨by show 2 ≤ sizeLine; decide, fun t ht => ?_⟩
    have sb := same_upd (o := .lst (us.map V.ref ++ [V.ref t7])) hb
    have st := same_upd (o := .tup [.ref q3, .ref b]) ht
    have nbt : b ≠ t := fun z => by rw [← z, upd_same] at ht; cases ht
    obtain ⟨ps, ekp2, lps2, D2, sD2, J9, kn2⟩ := (J8.grow (sb.trans st)).keep (a := q3) (b := b) (t := t) (vs := us.map V.ref ++ [V.ref t7]) q3out' (J8.out (.inl hb)) upd_same ((sb.trans st) _ _ e93) (by rw [upd_ne nbt, upd_same]) (mx8.same (sb.trans st))
    refine ⟨kp, _, _, rfl, rfl, ekp2, sz2001 (by rw [List.length_map]; omega), ?_⟩
    clear kn2 nbt kps0 lps0 ekp ps0
    revert J9
    generalize (upd (upd (upd H8 b (.lst (us.map V.ref ++ [V.ref t7]))) t (.tup [.ref q3, .ref b])) kp (.lst (ps.map V.ref ++ [V.ref t]))) = H9
    intro J9
    have F9 := FD.same sD2
    obtain ⟨ts9, ets9, lts9, _⟩ := F9.same J9.sub
    -- as due
    walk_at "rd"
    refine ⟨T1, _, rfl, .inl (.of ets9), ?_⟩
    rw [List.length_map, lts9]
    walk_at "rd"
    refine ⟨sa, _, 2, .int (N : Int), rfl, rfl, .of J9.stup, rfl, ?_⟩
    walk_at "rd"
    refine ifF (decide_eq_false (by omega)) ?_
    walk_at "rd"
    refine ifF (by rw [decide_eq_true rfl]; rfl) ?_
    -- the next number
    walk_at "rd"
    refine ⟨sa, _, 3, .ref nx, rfl, rfl, .of J9.stup, rfl, ?_⟩
    walk_at "rd"
    refine ⟨nx, _, 0, .int (fresh : Int), rfl, rfl, .of J9.nxt, rfl, ?_⟩
    walk_at "rd"
    refine ⟨sa, _, 3, .ref nx, rfl, rfl, .of J9.stup, rfl, ?_⟩
    walk_at "rd"
    refine ⟨nx, _, 0, 0, rfl, rfl, J9.nxt, rfl, ?_⟩
    have J10 := J9.setNx
    have e10 : [V.int (fresh : Int)].set 0 (V.int ((fresh : Int) + 1)) = [V.int ((fresh + 1 : Nat) : Int)] := rfl
    rw [e10]
    -- the order
    walk_at "rd"
    refine ⟨.inl ⟨rfl, _, .of J10.ord⟩, ?_⟩
    walk_at "rd"
    refine ⟨o, _, _, rfl, rfl, J10.ord, sz2001 (by rw [List.length_map]; omega), ?_⟩
    -- the boxes
    obtain ⟨kvs, ef, lk, _⟩ := J10.dict
    have nfo : f ≠ o := fun z => by
      have e := J10.ord
      rw [← z, ef] at e
      cases e
    walk_at "rd"
    refine ⟨f, _, rfl, DPut.k (k := Sum.inl (fresh : Int)) (by rw [upd_ne nfo]; exact ef) (sz2001 (by omega)), ?_⟩
    have hx : fresh ∉ ids := fun z => Nat.lt_irrefl _ (I.st.lt fresh z)
    have J11 := J10.addBox (x := fresh) ef F9 hx (made_st I.st vt)
    rw [← made_bxs I.st vt] at J11
    walk_at "rd"
    exact k D2 _ r' _ _ _ (sD1.trans sD2) J11
  · rw [List.length_map] at hz
    have I7 := I6.grow s7
    refine ⟨true, T.ex_NoRoom, fun _ a ha => ?_, fun q => nomatch q⟩
    obtain ⟨ts, ets, lts, _⟩ := F6.same s7
    walk_at "rd"
    refine ⟨T1, _, rfl, .inl (.of ets), ?_⟩
    rw [List.length_map, lts]
    walk_at "rd"
    refine ⟨sa, _, 2, .int (N : Int), rfl, rfl, .of I7.stup, rfl, ?_⟩
    walk_at "rd"
    refine ifT (decide_eq_true (by omega)) ?_
    walk_at "rd"
    refine ⟨.list ((ths.map (handT (plI ids fl))).map thD), .list ((ths.map (handT (plI ids fl))).map thD), dp_fields (Q6.same s7), dp_fields (P6.same s7), (ths_fine _).1, (ths_fine _).1, ?_⟩
    rw [(ths_fine _).2]
    exact k D0 H7 r ids fl fresh (Same.refl _) (I7.more (by omega))
theorem put_places {ids : List Nat} {fl : Nat → List Th} {nx x y : Nat} {th : Th} (s : StOk ids fl nx) (hx : x ∈ ids) : plI ids (setF fl x ((fl x).set y th)) = plI ids fl := by
  funext k
  unfold plI
  rw [put_bxs s hx, pl_set (bxsOf_get hx) List.length_set]
theorem ix_refs {xs : List Addr} {c : Nat} (h : c < xs.length) : ixN (xs.map V.ref).length (c : Int) = some c := by
  unfold ixN
  rw [List.length_map, if_pos (by omega), if_pos (by omega), Int.toNat_natCast]
theorem ix_one {ts : List Addr} {fs : List Th} {H : Hp} {t : Addr} {th : Th} {y : Nat} (hl : ts.length = fs.length) (k : ∀ (i : Nat) (u : Addr) (x : Th), ts[i]? = some u → fs[i]? = some x → H u = some (.tup (thV x))) (ht : H t = some (.tup (thV th))) :
    ∀ (i : Nat) (u : Addr) (x : Th), (ts.set y t)[i]? = some u → (fs.set y th)[i]? = some x → H u = some (.tup (thV x)) := fun i u x h1 h2 => by
  by_cases z : y = i
  · subst z
    have l1 := (List.getElem?_eq_some_iff.mp h1).1
    rw [List.length_set] at l1
    rw [List.getElem?_set_self l1] at h1
    rw [List.getElem?_set_self (by omega)] at h2
    rw [← Option.some.inj h1, ← Option.some.inj h2]
    exact ht
  · rw [List.getElem?_set_ne z] at h1 h2
    exact k i u x h1 h2
/-! #### _law_put -/
def sp_l_put (K : PySem.W.Frag) (A : Adr) : Sp := fun vs H Q _ => ∃ (D0 : Hp) (p r o f nx kp sa : Addr) (ids : List Nat) (fl : Nat → List Th) (N fresh c : Nat) (s : Int), vs = [.ref p, .ref sa, .int s] ∧ SI A.c_Room D0 H p r o f nx kp sa ids fl N fresh c ∧ c ≤ 40000 ∧ Builtin.Int.intBits s ≤ 1000 ∧
    ∀ D' H' fl', Same D0 D' → SI A.c_Room D' H' p r o f nx kp sa ids fl' N fresh (c + 1) → Q (.bl true) H'
theorem ok_l_put (T : Txt K mg A) : FnOk P w K mg base CX0 6 A.f_l_put A.d_l_put ["_law_room", "_law_state", "_law_seed"] (sp_l_put K A) := by
  refine T.F_l_put.ok sc_l_put (fun vs H Q E h => by obtain ⟨D0, p, r, o, f, nx, kp, sa, ids, fl, N, fresh, c, s, rfl, I, hc, hb, k⟩ := h; rfl) (fun cdv A' outer s H vs Q E hr h => ⟨_, (pss_cons (ps_set (i := 3) sc_l_put.nd rfl (.inl rfl) (pe_ix (ix_tupK (K := K) rfl) (pv 1) pe_int (fun _ _ => rfl)))
  (pss_cons (ps_set (i := 4) sc_l_put.nd rfl (.inl rfl) (pe_ix (ix_tupK (K := K) rfl) (pv 1) pe_int (fun _ _ => rfl)))
  (pss_cons (ps_set (i := 5) sc_l_put.nd rfl (.inl rfl) (pe_ix (ix_listK (K := K) rfl) (pv 3) (pe_op op_modI (pv 2) (pe_callB (call_lenK (K := K) rfl) (by rfl) T.z_len (by decide +kernel) (pa_cons (pv 3) pa_nil))) (fun _ _ => rfl)))
  (Evl.pss_cut (ps_if (pt_cmpR op_eq (pe_op op_modI (pe_op op_divI (pv 2) pe_int) pe_int) pe_int (nomark _))
  (pss_one (ps_set (i := 5) sc_l_put.nd rfl (.inl rfl) pe_int))
  pss_nil)
  (pss_cons (ps_if (pt_cmpR op_eq (pe_callB (call_lenK (K := K) rfl) (by rfl) T.z_len (by decide +kernel) (pa_cons (pe_dget (hu_of hr) (pv 4) (pv 5) (fun _ _ => rfl)) pa_nil)) pe_int (nomark _))
  (pss_one (ps_ret pe_bl))
  pss_nil)
  (pss_cons (ps_set (i := 6) sc_l_put.nd rfl (.inl rfl) (pe_op op_modI (pe_op op_divI (pv 2) pe_int) (pe_callB (call_lenK (K := K) rfl) (by rfl) T.z_len (by decide +kernel) (pa_cons (pe_dget (hu_of hr) (pv 4) (pv 5) (fun _ _ => rfl)) pa_nil))))
  (pss_cons (ps_set (i := 7) sc_l_put.nd rfl (.inl rfl) (pe_call (ok_l_thing T) (hr.mono (by decide)) (by rfl) T.m__law_thing T.F_l_thing.kp T.b_l_thing .nil pass0 (pa_cons (pe_op op_modI (pe_op op_mulI (pe_op op_divI (pv 2) pe_int) pe_int) pe_int) (pa_cons (pv 3) pa_nil))))
  (pss_cons (ps_set (i := 8) sc_l_put.nd rfl (.inr rfl) (pe_call (ok_l_places_of T) (hr.mono (by decide)) (by rfl) T.m__law_places_of T.F_l_places_of.kp T.b_l_places_of .nil pass0 (pa_cons (pv 3) (pa_cons (pv 4) pa_nil))))
  (pss_cons (ps_if (pt_not (pt_val (pe_call (ok_l_words_are T) (hr.mono (by decide)) (by rfl) T.m__law_words_are T.F_l_words_are.kp T.b_l_words_are .nil pass0 (pa_cons (pe_meth0 (pv 0) T.clR T.me_Rcome_to (ok_Rcome_to T) (hr.mono (by decide)) T.b_Rcome_to .nil pass0) (pa_cons (pe_lc (own := [("_law_other", 9)]) (g := gName 9) rfl sc_l_put.nd (pi_listK (K := K) rfl (pe_call (ok_l_come_to T) (hr.mono (by decide)) (by rfl) T.m__law_come_to T.F_l_come_to.kp T.b_l_come_to .nil pass0 (pa_cons (pv 3) (pa_cons (pv 4) pa_nil)))) (blkOk_by (own := [("_law_other", 9)]) (N := ["_law_room", "_law_state", "_law_seed", "_law_order", "_law_fields", "_law_one", "_law_field", "_law_thing_here", "_law_places", "_law_other", "_law_found", "_law_row"]) (sc := defScope s_l_put) (by decide +kernel)) (fun _ _ _ _ _ => pg_name (i := 9) sc_l_put.nd rfl (.inl rfl)) (fun _ _ _ _ _ => pts_nil) (fun _ _ _ _ _ => (pe_dget (hu_of hr) (pv 8) (pv 9) (fun _ _ => rfl)))) pa_nil)))))
  (pss_one (ps_ret pe_bl))
  pss_nil)
  (pss_cons (ps_set (i := 10) sc_l_put.nd rfl (.inl rfl) (pe_meth (pv 0) T.clR T.me_Rput (ok_Rput T) (hr.mono (by decide)) T.b_Rput .nil pass0 (pa_cons (pe_dget (hu_of hr) (pv 8) (pv 5) (fun _ _ => rfl)) (pa_cons (pv 6) (pa_cons (pe_call (ok_l_handed T) (hr.mono (by decide)) (by rfl) T.m__law_handed T.F_l_handed.kp T.b_l_handed .nil pass0 (pa_cons (pv 7) (pa_cons (pv 8) pa_nil))) pa_nil)))))
  (pss_cons (ps_set (i := 11) sc_l_put.nd rfl (.inl rfl) (pe_callTy (call_list_ofK (K := K) rfl) (by rfl) T.z_list (by decide +kernel) (pa_cons (pe_dget (hu_of hr) (pv 4) (pv 5) (fun _ _ => rfl)) pa_nil)))
  (pss_cons (ps_asg (pv 7) (pg_sub (pv 11) (pv 6) set_list))
  (pss_cons (ps_dput (hu_of hr) (pv 4) (pv 5) (pv 11) rfl)
  (pss_cons (ps_if (pt_not (pt_val (pe_call (ok_l_words_are T) (hr.mono (by decide)) (by rfl) T.m__law_words_are T.F_l_words_are.kp T.b_l_words_are .nil pass0 (pa_cons (pe_meth0 (pv 0) T.clR T.me_Rcome_to (ok_Rcome_to T) (hr.mono (by decide)) T.b_Rcome_to .nil pass0) (pa_cons (pe_lc (own := [("_law_other", 9)]) (g := gName 9) rfl sc_l_put.nd (pi_listK (K := K) rfl (pe_call (ok_l_come_to T) (hr.mono (by decide)) (by rfl) T.m__law_come_to T.F_l_come_to.kp T.b_l_come_to .nil pass0 (pa_cons (pv 3) (pa_cons (pv 4) pa_nil)))) (blkOk_by (own := [("_law_other", 9)]) (N := ["_law_room", "_law_state", "_law_seed", "_law_order", "_law_fields", "_law_one", "_law_field", "_law_thing_here", "_law_places", "_law_other", "_law_found", "_law_row"]) (sc := defScope s_l_put) (by decide +kernel)) (fun _ _ _ _ _ => pg_name (i := 9) sc_l_put.nd rfl (.inl rfl)) (fun _ _ _ _ _ => pts_nil) (fun _ _ _ _ _ => (pe_dget (hu_of hr) (pv 8) (pv 9) (fun _ _ => rfl)))) pa_nil)))))
  (pss_one (ps_ret pe_bl))
  pss_nil)
  (pss_one (ps_ret (pe_cmpR op_isN (pv 10) pe_non (nomark _)))))))))))))))))), ?_⟩)
  obtain ⟨D0, p, r, o, f, nx, kp, sa, ids, fl, N, fresh, c, s, rfl, I, hc, hb, k⟩ := h
  have hlen := I.len
  have h400 := I.ok.le
  have hsz := I.ok.sz
  have hpos : 0 < ids.length := List.length_pos_of_mem (st_mem0 I.st)
  obtain ⟨kvs, ef, kf⟩ := I.fd
  walk_at "rd"
  refine ⟨sa, _, 0, .ref o, rfl, rfl, .of I.stup, rfl, ?_⟩
  walk_at "rd"
  refine ⟨sa, _, 1, .ref f, rfl, rfl, .of I.stup, rfl, ?_⟩
  walk_at "rd"
  refine ⟨o, _, rfl, .inl (.of I.ord), ?_⟩
  rw [List.length_map]
  walk_at "rd"
  obtain ⟨m, em, hm⟩ := mod_nat (n := ids.length) s hpos
  refine ⟨by omega, ?_⟩
  rw [em]
  have gm := List.getElem?_eq_getElem hm
  refine ⟨o, _, (m : Int), natV ids[m], rfl, rfl, .of I.ord, atI_nat (by rw [List.getElem?_map, gm]; rfl), ?_⟩
  walk_at "rd"
  refine ⟨fun σ' H' => ∃ x, x ∈ ids ∧ σ' = [some (.ref p), some (.ref sa), some (.int s), some (.ref o), some (.ref f), some (natV x), none, none, none, none, none, none] ∧ H' = H, ?_, ?_⟩
  · walk_at "rd"
    refine ite2 (fun _ => ?_) (fun _ => ?_)
    · walk_at "rd"
      exact ⟨0, st_mem0 I.st, rfl, rfl⟩
    · exact ⟨_, List.mem_of_getElem? gm, rfl, rfl⟩
  clear gm em hm m
  rintro σ' H' ⟨x, hx, rfl, rfl⟩
  obtain ⟨l, el, Fx⟩ := kf x hx
  obtain ⟨ts, ets, lts, kt⟩ := id Fx
  have hfl : (fl x).length ≤ 400 := by
    have := sizeT_field (bxsOf_get (fl := fl) hx)
    rw [List.length_map] at this
    omega
  walk_at "rd"
  refine ⟨f, .ref l, rfl, dget ef el, ?_⟩
  refine ⟨l, _, rfl, .inl (.of ets), ?_⟩
  rw [List.length_map, lts]
  walk_at "rd"
  by_cases hz : (fl x).length = 0
  · refine ifT (decide_eq_true (by rw [hz]; rfl)) ?_
    walk_at "rd"
    exact k D0 _ fl (Same.refl _) (I.more (by omega))
  refine ifF (decide_eq_false fun z => hz (by have := V.int.inj z; omega)) ?_
  walk_at "rd"
  refine ⟨f, .ref l, rfl, dget ef el, ?_⟩
  refine ⟨l, _, rfl, .inl (.of ets), ?_⟩
  rw [List.length_map, lts]
  walk_at "rd"
  obtain ⟨y, ey, hy⟩ := mod_nat (n := (fl x).length) (s / 21) (by omega)
  refine ⟨by omega, ?_⟩
  rw [ey]
  -- the thing
  walk_at "rd"
  refine ⟨_, o, ids, rfl, I.ord, hpos, by omega, bits_iff.mpr ?_, fun t H1 th ht s1 et okth vth => ?_⟩
  · obtain ⟨m', em', hm'⟩ := mod_nat (n := 999979) (s / 500 * 16807) (by decide)
    rw [show s / 500 * 16807 % 999979 = (m' : Int) from em']
    exact Nat.lt_of_lt_of_le (show ((m' : Int)).natAbs < 2 ^ 20 by omega) (Nat.pow_le_pow_right (by decide) (by decide))
  have I1 := I.grow s1
  -- the places
  walk_at "rd"
  refine ⟨o, f, ids, fl, rfl, I1.ord, I1.fd, I1.st.nd, by omega, fun g H2 hg s2 Pg => ?_⟩
  have I2 := I1.grow s2
  have et2 := s2 _ _ et
  obtain ⟨gvs, eg, kg⟩ := id Pg
  obtain ⟨⟨dx, eo⟩, er⟩ := id I2.room
  walk_at "rd"
  refine ⟨p, dx, _, rfl, eo, rmf_no _ _ (by decide +kernel) (by decide +kernel), ?_⟩
  walk_at "rd"
  refine ⟨p, r, bxsOf ids fl, N, rfl, I2.room, I2.ok, fun q5 H5 hq5 s5 eq5 => ?_⟩
  have I5 := I2.grow s5
  walk_at "rd"
  refine ⟨o, f, ids, fl, fresh, rfl, I5.ord, I5.fd, I5.st, by omega, fun q6 H6 hq6 s6 eq6 => ?_⟩
  have hkl : (kin ids fl).length ≤ 400 := by
    unfold kin
    have := List.length_filter_le (fun o => aliveT (bxsOf ids fl) (ids.idxOf o)) ids
    omega
  walk_at "rd"
  refine ⟨⟨_, .of eq6⟩, fun D hD => lc_list (K := K) (a := q6) (xs := (kin ids fl).map natV) (fun j H' => Same H6 H' ∧ H' D = some (.lst ((((kin ids fl).take j).map (plI ids fl)).map natV))) ⟨same_upd hD, upd_same⟩ (fun j H' _ p => .of (p.1 _ _ eq6)) (fun j x H' hx p => ?_) (fun H7 p => ?_)⟩
  · obtain ⟨a, ha, rfl⟩ := nat_get hx
    refine ⟨rfl, ?_⟩
    walk_at "rd"
    refine ⟨g, natV (plI ids fl a), rfl, dget (p.1 _ _ (s6 _ _ (s5 _ _ eg))) (kg a (((kin_mem I2.st).mp (List.mem_of_getElem? ha)).mem I2.st)), ?_⟩
    refine ⟨_, p.2, sz2001 (by rw [List.length_map, List.length_map, List.length_take]; omega), same_mut hD p.1, ?_⟩
    rw [upd_same, List.take_add_one, ha, Option.toList_some, List.map_append, List.map_append]
    rfl
  obtain ⟨p1, p2⟩ := p
  rw [List.length_map, List.take_length, map_natV] at p2
  rw [← kin_places I2.st.nd, map_natV] at eq5
  refine ⟨q5, D, _, rfl, .of (p1 _ _ (s6 _ _ eq5)), .of p2, by rw [List.length_map, List.length_map]; omega, fun H8 s8 => ?_⟩
  have S58 := s5.trans (s6.trans (p1.trans s8))
  have I8 := I2.grow S58
  have eg8 := S58 _ _ eg
  have et8 := S58 _ _ et2
  have eo8 := S58 _ _ eo
  have gOut := I1.out (t := g) (.inl hg)
  clear S58 s8 p2 p1 hD hkl eq6 s6 hq6 I5 eq5 s5 hq5 er eo eg Pg et2 s2 hg I1 et s1 ht kt ets lts Fx el ef kf kvs ts l
  -- put
  walk_at "rd"
  refine ⟨p, dx, _, rfl, eo8, rmf_no _ _ (by decide +kernel) (by decide +kernel), ?_⟩
  walk_at "rd"
  refine ⟨g, natV (plI ids fl x), rfl, dget eg8 (kg x hx), ?_⟩
  walk_at "rd"
  refine ⟨t, g, th, ids, _, rfl, et8, ⟨gvs, eg8, kg⟩, vth, fun t' H9 s9 et' => ?_⟩
  have I9 := I8.grow s9
  have eg9 := s9 _ _ eg8
  have et9 := s9 _ _ et8
  rw [← hand_pl] at et'
  have okt' : OkTh (toPl (bxsOf ids fl) (ixT ids th)) := by
    rw [hand_pl]
    cases th with
    | num n => exact okth
    | box m =>
      have := sizeT_field (bxsOf_get (fl := fl) (vth m rfl))
      show plI ids fl m < 10 ^ 60
      unfold plI
      omega
  have vt' : ∀ k, ixT ids th = .box k → k < (bxsOf ids fl).length := fun k hk => by
    cases th with
    | num n => cases hk
    | box m =>
      rw [← Th.box.inj hk, bxsOf_len]
      exact List.idxOf_lt_length_of_mem (vth m rfl)
  have hy2 : y < ((fl x).map (ixT ids)).length := by rw [List.length_map]; exact hy
  refine ⟨p, r, t', bxsOf ids fl, N, ids.idxOf x, y, (fl x).map (ixT ids), ixT ids th, rfl, I9.room, I9.ok, bxsOf_get hx, hy2, et', okt', vt', fun H10 R10 bt => ?_⟩
  have J10 := SJ.roomNew I9 (.inl rfl) R10 (put_ok I9.ok (bxsOf_get hx) hy2 vt') (fun b z e _ h2 => bt b z e h2)
  rw [← put_bxs I9.st hx] at J10
  have er9 := I9.room.row
  have et10 := bt _ _ et9 (fun z => by rw [z, er9] at et9; cases et9)
  have eg10 := bt _ _ eg9 (fun z => by rw [z, er9] at eg9; cases eg9)
  clear bt R10 hy2 vt' okt' et' er9 et9 eg9 I9 s9 et8 eg8 eo8 I8 dx
  -- the new list
  obtain ⟨kvs, ef, kf⟩ := J10.fd
  obtain ⟨l, el, Fx⟩ := kf x hx
  obtain ⟨ts, ets, lts, kt⟩ := id Fx
  walk_at "rd"
  refine ⟨f, .ref l, rfl, dget ef el, ?_⟩
  refine ⟨l, _, rfl, .inl (.of ets), fun q hq => ?_⟩
  have sq := same_upd (o := .lst (ts.map V.ref)) hq
  have J11 := J10.grow sq
  have qOut := J10.out (t := q) (.inl hq)
  have Dq := J10.sub.free hq
  walk_at "rd"
  refine ⟨q, _, (y : Int), y, rfl, rfl, upd_same, ix_refs (by omega), ?_⟩
  rw [← List.map_set (f := V.ref)]
  have J12 := J11.mut (x := .lst ((ts.set y t).map V.ref)) Dq qOut
  have eg12 : (upd (upd H10 q (.lst (ts.map V.ref))) q (.lst ((ts.set y t).map V.ref))) g = some (.dK gvs) := by
    rw [upd_ne (ne_of_none eg10 hq), upd_ne (ne_of_none eg10 hq)]
    exact eg10
  have F12 : FieldsAt (upd (upd H10 q (.lst (ts.map V.ref))) q (.lst ((ts.set y t).map V.ref))) q ((fl x).set y th) := by
    refine ⟨ts.set y t, upd_same, by rw [List.length_set, List.length_set]; exact lts, fun i u z h1 h2 => ?_⟩
    have e := ix_one lts kt et10 i u z h1 h2
    rw [upd_ne (ne_of_none e hq), upd_ne (ne_of_none e hq)]
    exact e
  have ef12 : (upd (upd H10 q (.lst (ts.map V.ref))) q (.lst ((ts.set y t).map V.ref))) f = some (.dK kvs) := by
    rw [upd_ne (ne_of_none ef hq), upd_ne (ne_of_none ef hq)]
    exact ef
  clear sq J11 hq et10 eg10 kt lts ets Fx el kf ef J10
  revert J12 eg12 F12 ef12
  generalize (upd (upd H10 q (.lst (ts.map V.ref))) q (.lst ((ts.set y t).map V.ref))) = H12
  intro J12 eg12 F12 ef12
  obtain ⟨D1, sD1, J13, FD, _⟩ := J12.addL F12 qOut
  obtain ⟨kvs2, ek2, lk2, _⟩ := J13.dict
  have ekk : kvs2 = kvs := HO.dK.inj (Option.some.inj (ek2.symm.trans ef12))
  subst ekk
  walk_at "rd"
  refine ⟨f, _, rfl, DPut.k (k := Sum.inl (x : Int)) ef12 (sz2001 (by omega)), ?_⟩
  have I14 := J13.setBox (x := x) ef12 FD (put_st I.st hx vth)
  have ngf : g ≠ f := fun z => gOut (by rw [z]; simp)
  have eg14 : (upd H12 f (.dK (putK kvs2 (Sum.inl (x : Int)) (.ref q)))) g = some (.dK gvs) := by
    rw [upd_ne ngf]
    exact eg12
  clear FD J13 F12 eg12 J12 ek2
  revert I14 eg14
  generalize (upd H12 f (.dK (putK kvs2 (Sum.inl (x : Int)) (.ref q)))) = H14
  intro I14 eg14
  obtain ⟨⟨dx, eo⟩, er⟩ := id I14.room
  walk_at "rd"
  refine ⟨p, dx, _, rfl, eo, rmf_no _ _ (by decide +kernel) (by decide +kernel), ?_⟩
  walk_at "rd"
  refine ⟨p, r, bxsOf ids (setF fl x ((fl x).set y th)), N, rfl, I14.room, I14.ok, fun q5 H5 hq5 s5 eq5 => ?_⟩
  have I5 := I14.grow s5
  walk_at "rd"
  refine ⟨o, f, ids, (setF fl x ((fl x).set y th)), fresh, rfl, I5.ord, I5.fd, I5.st, by omega, fun q6 H6 hq6 s6 eq6 => ?_⟩
  have hkl : (kin ids (setF fl x ((fl x).set y th))).length ≤ 400 := by
    unfold kin
    have := List.length_filter_le (fun o => aliveT (bxsOf ids (setF fl x ((fl x).set y th))) (ids.idxOf o)) ids
    omega
  walk_at "rd"
  refine ⟨⟨_, .of eq6⟩, fun D hD => lc_list (K := K) (a := q6) (xs := (kin ids (setF fl x ((fl x).set y th))).map natV) (fun j H' => Same H6 H' ∧ H' D = some (.lst ((((kin ids (setF fl x ((fl x).set y th))).take j).map (plI ids fl)).map natV))) ⟨same_upd hD, upd_same⟩ (fun j H' _ p => .of (p.1 _ _ eq6)) (fun j x H' hx p => ?_) (fun H7 p => ?_)⟩
  · obtain ⟨a, ha, rfl⟩ := nat_get hx
    refine ⟨rfl, ?_⟩
    walk_at "rd"
    refine ⟨g, natV (plI ids fl a), rfl, dget (p.1 _ _ (s6 _ _ (s5 _ _ eg14))) (kg a (((kin_mem I14.st).mp (List.mem_of_getElem? ha)).mem I14.st)), ?_⟩
    refine ⟨_, p.2, sz2001 (by rw [List.length_map, List.length_map, List.length_take]; omega), same_mut hD p.1, ?_⟩
    rw [upd_same, List.take_add_one, ha, Option.toList_some, List.map_append, List.map_append]
    rfl
  obtain ⟨p1, p2⟩ := p
  rw [List.length_map, List.take_length, map_natV] at p2
  rw [← kin_places I14.st.nd, put_places I.st hx, map_natV] at eq5
  refine ⟨q5, D, _, rfl, .of (p1 _ _ (s6 _ _ eq5)), .of p2, by rw [List.length_map, List.length_map]; omega, fun H8 s8 => ?_⟩
  walk_at "rd"
  exact k D1 H8 _ sD1 (I14.grow (s5.trans (s6.trans (p1.trans s8))))
theorem bxs_one (d : Nat) : bxsOf [0] (fun _ => List.replicate d (Th.num 0)) = [List.replicate d (Th.num 0)] := by
  show [(List.replicate d (Th.num 0)).map (ixT [0])] = _
  rw [List.map_replicate]
  rfl
theorem one_ok {d N : Nat} (h : d < N) (h4 : N ≤ 400) : RoomOk [List.replicate d (Th.num 0)] N := by
  refine ⟨fun fs hf k hk => ?_, Nat.one_pos, ?_, h4⟩
  · rw [List.mem_singleton.mp hf] at hk
    cases List.eq_of_mem_replicate hk
  · show 1 + (List.replicate d (Th.num 0)).length + 0 ≤ N
    rw [List.length_replicate]
    omega
theorem one_st (d : Nat) : StOk [0] (fun _ => List.replicate d (Th.num 0)) 1 :=
  ⟨by simp, rfl, fun _ _ k hk => (by cases List.eq_of_mem_replicate hk), fun o ho => (by rw [List.mem_singleton.mp ho]; decide)⟩
/-! #### _law_begun -/
def sp_l_begun (K : PySem.W.Frag) (A : Adr) : Sp := fun vs H Q _ => ∃ (a : Addr) (ns : List Int), vs = [.ref a] ∧ SqL K H a (ns.map V.int) ∧ ns.length ≤ 1000 ∧
    ∀ D H' b p r o f nx kp sa N fl, Same H D → H' b = some (.tup [.ref p, .ref sa]) → SI A.c_Room D H' p r o f nx kp sa [0] fl N 1 10 → Q (.ref b) H'
theorem ok_l_begun (T : Txt K mg A) : FnOk P w K mg base CX0 4 A.f_l_begun A.d_l_begun ["_law_script"] (sp_l_begun K A) := by
  refine T.F_l_begun.ok sc_l_begun (fun vs H Q E h => by obtain ⟨a, ns, rfl, hS, hl, k⟩ := h; rfl) (fun cdv A' outer s H vs Q E hr h => ⟨_, (pss_cons (ps_set (i := 1) sc_l_begun.nd rfl (.inl rfl) (pe_op op_modI (pe_call (ok_l_at T) (hr.mono (by decide)) (by rfl) T.m__law_at T.F_l_at.kp T.b_l_at .nil pass0 (pa_cons (pv 0) (pa_cons pe_int pa_nil))) pe_int))
  (pss_cons (ps_set (i := 2) sc_l_begun.nd rfl (.inl rfl) (pe_op op_addI (pe_op op_addI pe_int (pv 1)) (pe_op op_modI (pe_op op_modI (pe_op op_mulI (pe_call (ok_l_at T) (hr.mono (by decide)) (by rfl) T.m__law_at T.F_l_at.kp T.b_l_at .nil pass0 (pa_cons (pv 0) (pa_cons pe_int pa_nil))) pe_int) pe_int) pe_int)))
  (Evl.pss_cut (ps_if (pt_cmpR op_eq (pe_op op_modI (pe_op op_divI (pe_call (ok_l_at T) (hr.mono (by decide)) (by rfl) T.m__law_at T.F_l_at.kp T.b_l_at .nil pass0 (pa_cons (pv 0) (pa_cons pe_int pa_nil))) pe_int) pe_int) pe_int (nomark _))
  (pss_one (ps_set (i := 2) sc_l_begun.nd rfl (.inl rfl) (pe_op op_subI pe_int (pe_op op_modI (pe_op op_modI (pe_op op_mulI (pe_call (ok_l_at T) (hr.mono (by decide)) (by rfl) T.m__law_at T.F_l_at.kp T.b_l_at .nil pass0 (pa_cons (pv 0) (pa_cons pe_int pa_nil))) pe_int) pe_int) pe_int))))
  pss_nil)
  (pss_cons (ps_set (i := 3) sc_l_begun.nd rfl (.inl rfl) (pe_disp (pps_cons pe_int (pe_op op_rep (pe_lst (pa_cons (pe_tup (pa_cons pe_str (pa_cons pe_int pa_nil))) pa_nil)) (pv 1)) pps_nil) (by rfl) (by rfl) (fun z => by cases z) (by decide)))
  (pss_one (ps_ret (pe_tup (pa_cons (pe_make T.mkR (ok_Rinit T) (hr.mono (by decide)) (by rfl) T.m_Room T.b_Rinit .nil pass0 (pa_cons (pv 2) (pa_cons (pv 1) pa_nil))) (pa_cons (pe_tup (pa_cons (pe_lst (pa_cons pe_int pa_nil)) (pa_cons (pv 3) (pa_cons (pv 2) (pa_cons (pe_lst (pa_cons pe_int pa_nil)) (pa_cons (pe_lst pa_nil) pa_nil)))))) pa_nil))))))))), ?_⟩)
  obtain ⟨a, ns, rfl, hS, hl, k⟩ := h
  walk_at "rd"
  refine ⟨a, ns, 0, rfl, hS, hl, fun H1 s1 => ?_⟩
  obtain ⟨d, ed, hd⟩ := mod_nat (n := 21) (cell ns 0) (by decide)
  walk_at "rd"
  rw [show cell ns 0 % 21 = (d : Int) from ed]
  walk_at "rd"
  refine ⟨a, ns, 0, rfl, s1.seq hS, hl, fun H2 s2 => ?_⟩
  obtain ⟨e, ee, he⟩ := mod_nat (n := 100) (cell ns 0 * 48271 % 999983) (by decide)
  walk_at "rd"
  rw [show cell ns 0 * 48271 % 999983 % 100 = (e : Int) from ee]
  have S2 := s1.trans s2
  walk_at "rd"
  refine ⟨fun σ' H' => ∃ N : Nat, d < N ∧ N ≤ 400 ∧ σ' = [some (.ref a), some (.int d), some (.int N), none] ∧ Same H H', ?_, ?_⟩
  · walk_at "rd"
    refine ⟨a, ns, 0, rfl, S2.seq hS, hl, fun H3 s3 => ?_⟩
    walk_at "rd"
    refine ite2 (fun _ => ?_) (fun _ => ?_)
    · walk_at "rd"
      refine ⟨a, ns, 0, rfl, (S2.trans s3).seq hS, hl, fun H4 s4 => ?_⟩
      obtain ⟨g, eg, hg⟩ := mod_nat (n := 370) (cell ns 0 * 48271 % 999983) (by decide)
      walk_at "rd"
      rw [show cell ns 0 * 48271 % 999983 % 370 = (g : Int) from eg]
      refine ⟨400 - g, by omega, by omega, ?_, (S2.trans s3).trans s4⟩
      rw [show ((400 - g : Nat) : Int) = 400 - (g : Int) by omega]
      rfl
    · refine ⟨1 + d + e, by omega, by omega, ?_, S2.trans s3⟩
      rw [show ((1 + d + e : Nat) : Int) = 1 + (d : Int) + (e : Int) by omega]
      rfl
  clear S2 he ee e s2 s1 H2 H1
  rintro σ' H1 ⟨N, hN, h400, rfl, S1⟩
  -- the dict
  walk_at "rd"
  refine fun f hf => ?_
  walk_at "rd"
  refine ⟨by show 2 ≤ sizeLine; decide, fun t ht => ?_⟩
  walk_at "rd"
  refine ⟨by show 1 ≤ sizeLine; decide, fun l1 hl1 => ?_⟩
  walk_at "rd"
  refine ⟨l1, (d : Int), _, rfl, rfl, upd_same, by omega, by omega, sz2000 (by rw [Int.toNat_natCast]; show 1 * d ≤ _; omega), fun l hl2 => ?_⟩
  rw [Int.toNat_natCast, List.flatten_replicate_singleton]
  have c1 := same_upd (o := .dK []) hf
  have c2 := same_upd (o := .tup [V.str "number", V.int 0]) ht
  have c3 := same_upd (o := .lst [V.ref t]) hl1
  have c4 := same_upd (o := .lst (List.replicate d (V.ref t))) hl2
  have c24 := c2.trans (c3.trans c4)
  have cf := c24 f _ upd_same
  have ct := (c3.trans c4) t _ upd_same
  have cl : (upd (upd (upd (upd H1 f (.dK [])) t (.tup [V.str "number", V.int 0])) l1 (.lst [V.ref t])) l (.lst (List.replicate d (V.ref t)))) l = some (.lst (List.replicate d (V.ref t))) := upd_same
  have cH := c1.trans c24
  walk_at "rd"
  refine ⟨cf, [(Sum.inl 0, .ref l)], rfl, by show 1 ≤ 15; decide, ?_⟩
  have em : mergeK [] [((Sum.inl 0 : Key), V.ref l)] = [(Sum.inl 0, V.ref l)] := rfl
  rw [em]
  have nlf : l ≠ f := ne_of cl cf (by intro z; cases z)
  have ntf : t ≠ f := ne_of ct cf (by intro z; cases z)
  have dH := same_mut (o := .dK [((Sum.inl 0 : Key), V.ref l)]) hf cH
  have dl : (upd (upd (upd (upd (upd H1 f (.dK [])) t (.tup [V.str "number", V.int 0])) l1 (.lst [V.ref t])) l (.lst (List.replicate d (V.ref t)))) f (.dK [((Sum.inl 0 : Key), V.ref l)])) l = some (.lst (List.replicate d (V.ref t))) := by
    rw [upd_ne nlf]
    exact cl
  have dt : (upd (upd (upd (upd (upd H1 f (.dK [])) t (.tup [V.str "number", V.int 0])) l1 (.lst [V.ref t])) l (.lst (List.replicate d (V.ref t)))) f (.dK [((Sum.inl 0 : Key), V.ref l)])) t = some (.tup [V.str "number", V.int 0]) := by
    rw [upd_ne ntf]
    exact ct
  have df : (upd (upd (upd (upd (upd H1 f (.dK [])) t (.tup [V.str "number", V.int 0])) l1 (.lst [V.ref t])) l (.lst (List.replicate d (V.ref t)))) f (.dK [((Sum.inl 0 : Key), V.ref l)])) f = some (.dK [((Sum.inl 0 : Key), V.ref l)]) := upd_same
  clear cH cl ct cf c24 c4 c3 c2 c1 em nlf ntf hl2 hl1 ht
  revert dH dl dt df
  generalize (upd (upd (upd (upd (upd H1 f (.dK [])) t (.tup [V.str "number", V.int 0])) l1 (.lst [V.ref t])) l (.lst (List.replicate d (V.ref t)))) f (.dK [((Sum.inl 0 : Key), V.ref l)])) = HF
  intro dH dl dt df
  -- the room
  walk_at "rd"
  refine fun p dx hp hdx hne => ?_
  refine ⟨p, dx, N, d, rfl, upd_same, by omega, hN, h400, fun r H2 hr2 R bt => ?_⟩
  have S2 : Same HF H2 := fun b o e => bt b o (by rw [upd_ne (ne_of_none e hp), upd_ne (ne_of_none e hdx)]; exact e) (ne_of_none e hp)
  have hr1 : HF r = none := by
    have rp : r ≠ p := fun z => by rw [z, upd_same] at hr2; cases hr2
    rw [upd_ne rp] at hr2
    have rd : r ≠ dx := fun z => by rw [z, upd_same] at hr2; cases hr2
    rw [upd_ne rd] at hr2
    exact hr2
  walk_at "rd"
  refine ⟨by show 1 ≤ sizeLine; decide, fun o ho => ?_⟩
  have s3 := same_upd (o := .lst [V.int 0]) ho
  walk_at "rd"
  refine ⟨by show 1 ≤ sizeLine; decide, fun nx hnx => ?_⟩
  have s4 := same_upd (o := .lst [V.int 1]) hnx
  walk_at "rd"
  refine ⟨Nat.zero_le _, fun kp hkp => ?_⟩
  have s5 := same_upd (o := .lst []) hkp
  refine ⟨by show 5 ≤ sizeLine; decide, fun sa hsa => ?_⟩
  have s6 := same_upd (o := .tup [.ref o, .ref f, .int (N : Int), .ref nx, .ref kp]) hsa
  refine ⟨by show 2 ≤ sizeLine; decide, fun b hb => ?_⟩
  have s7 := same_upd (o := .tup [.ref p, .ref sa]) hb
  have n1 : (upd H2 o (.lst [V.int 0])) nx = none := hnx
  have w2 := s3.trans (s4.trans (s5.trans (s6.trans s7)))
  have eo := (s4.trans (s5.trans (s6.trans s7))) o _ upd_same
  have enx := (s5.trans (s6.trans s7)) nx _ upd_same
  have ekp := (s6.trans s7) kp _ upd_same
  have esa := s7 sa _ upd_same
  have eb : (upd (upd (upd (upd (upd H2 o (.lst [V.int 0])) nx (.lst [V.int 1])) kp (.lst [])) sa (.tup [.ref o, .ref f, .int (N : Int), .ref nx, .ref kp])) b (.tup [.ref p, .ref sa])) b = some (.tup [.ref p, .ref sa]) := upd_same
  have RR := R.same w2
  obtain ⟨⟨dx2, ep⟩, er⟩ := id RR
  have wF := S2.trans w2
  have el := wF _ _ dl
  have et := wF _ _ dt
  have ef := wF _ _ df
  have fo : HF o = none := S2.free ho
  have fnx : HF nx = none := S2.free (s3.free hnx)
  have fkp : HF kp = none := S2.free (s3.free (s4.free hkp))
  have nro : r ≠ o := ne_of_none R.row ho
  have nrn : r ≠ nx := ne_of_none (s3 _ _ R.row) hnx
  have nrk : r ≠ kp := ne_of_none (s4 _ _ (s3 _ _ R.row)) hkp
  have non : o ≠ nx := fun z => by rw [← z, upd_same] at hnx; cases hnx
  have nok : o ≠ kp := fun z => by rw [← z, s4 o _ upd_same] at hkp; cases hkp
  have nnk : nx ≠ kp := fun z => by rw [← z, upd_same] at hkp; cases hkp
  clear n1 w2 s3 s4 s5 s6 hb hsa hkp hnx ho hr2 bt
  clear s7
  revert eo enx ekp esa eb RR ep er wF el et ef
  generalize (upd (upd (upd (upd (upd H2 o (.lst [V.int 0])) nx (.lst [V.int 1])) kp (.lst [])) sa (.tup [.ref o, .ref f, .int (N : Int), .ref nx, .ref kp])) b (.tup [.ref p, .ref sa])) = HH
  intro eo enx ekp esa eb RR er ep wF el et ef
  have tupOut : ∀ (x : Addr) (xs : List V), HH x = some (.tup xs) → x ∉ [p, r, o, f, nx, kp] := fun x xs e z => by
    simp only [List.mem_cons, List.not_mem_nil, or_false] at z
    rcases z with z | z | z | z | z | z
    · rw [z, ep] at e; cases e
    · rw [z, er] at e; cases e
    · rw [z, eo] at e; cases e
    · rw [z, ef] at e; cases e
    · rw [z, enx] at e; cases e
    · rw [z, ekp] at e; cases e
  have lOut : l ∉ [p, r, o, f, nx, kp] := fun z => by
    simp only [List.mem_cons, List.not_mem_nil, or_false] at z
    rcases z with z | z | z | z | z | z
    · rw [z, hp] at dl; cases dl
    · rw [z, hr1] at dl; cases dl
    · rw [z, fo] at dl; cases dl
    · rw [z, df] at dl; cases dl
    · rw [z, fnx] at dl; cases dl
    · rw [z, fkp] at dl; cases dl
  have SH := S1.trans dH
  refine k (fz [p, r, o, f, nx, kp] HH) HH b p r o f nx kp sa N (fun _ => List.replicate d (Th.num 0)) (fun x y e => ?_) eb ⟨by rw [bxs_one]; exact RR, by rw [bxs_one]; exact one_ok hN h400, one_st d, by rw [fz_out (tupOut _ _ esa)]; exact esa, eo, ⟨[(Sum.inl 0, .ref l)], ef, by show 1 ≤ 10; decide, fun i hi => ⟨l, ?_, ?_⟩⟩, enx, ⟨[], ekp, by show 0 ≤ 10; decide, fun q hq => (nomatch hq)⟩, ⟨nro, nrn, nrk, non, nok, nnk⟩, fz_sub, fun _ hb => fz_in hb⟩
  · have nx0 : x ∉ [p, r, o, f, nx, kp] := fun z => by
      simp only [List.mem_cons, List.not_mem_nil, or_false] at z
      rcases z with z | z | z | z | z | z
      · rw [z, SH.free hp] at e; cases e
      · rw [z, SH.free hr1] at e; cases e
      · rw [z, SH.free fo] at e; cases e
      · rw [z, S1.free hf] at e; cases e
      · rw [z, SH.free fnx] at e; cases e
      · rw [z, SH.free fkp] at e; cases e
    rw [fz_out nx0]
    exact wF _ _ (SH _ _ e)
  · rw [List.mem_singleton.mp hi]
    rfl
  · refine ⟨List.replicate d t, ?_, by rw [List.length_replicate, List.length_replicate], fun j u th h1 h2 => ?_⟩
    · rw [fz_out lOut, List.map_replicate]
      exact el
    · have e1 := List.eq_of_mem_replicate (List.mem_of_getElem? h1)
      have e2 := List.eq_of_mem_replicate (List.mem_of_getElem? h2)
      rw [e1, e2, fz_out (tupOut _ _ et)]
      exact et
/-! #### _law_pushed -/
def sp_l_pushed (K : PySem.W.Frag) (A : Adr) : Sp := fun vs H Q _ => ∃ (D0 : Hp) (p r o f nx kp sa : Addr) (ids : List Nat) (fl : Nat → List Th) (N fresh c : Nat), vs = [.ref p, .ref sa] ∧ SI A.c_Room D0 H p r o f nx kp sa ids fl N fresh c ∧ c ≤ 40000 ∧
    ∀ D' H' r', Same D0 D' → SI A.c_Room D' H' p r' o f nx kp sa (kin ids fl) fl N fresh (c + 6) → Q (.bl true) H'
theorem ok_l_pushed (T : Txt K mg A) : FnOk P w K mg base CX0 8 A.f_l_pushed A.d_l_pushed ["_law_room", "_law_state"] (sp_l_pushed K A) := by
  refine T.F_l_pushed.ok sc_l_pushed (fun vs H Q E h => by obtain ⟨D0, p, r, o, f, nx, kp, sa, ids, fl, N, fresh, c, rfl, I, hc, k⟩ := h; rfl) (fun cdv A' outer s H vs Q E hr h => ⟨_, (pss_cons (ps_set (i := 2) sc_l_pushed.nd rfl (.inr rfl) (pe_call (ok_l_come_to T) (hr.mono (by decide)) (by rfl) T.m__law_come_to T.F_l_come_to.kp T.b_l_come_to .nil pass0 (pa_cons (pe_ix (ix_tupK (K := K) rfl) (pv 1) pe_int (fun _ _ => rfl)) (pa_cons (pe_ix (ix_tupK (K := K) rfl) (pv 1) pe_int (fun _ _ => rfl)) pa_nil))))
  (pss_cons (ps_set (i := 3) sc_l_pushed.nd rfl (.inl rfl) (pe_callB (cr_sumK (K := K) rfl rfl) (by rfl) T.z_sum (by decide +kernel) (pa_cons (pe_lc (own := [("_law_one", 4)]) (g := gName 4) rfl sc_l_pushed.nd (pi_listK (K := K) rfl (pe_ix (ix_tupK (K := K) rfl) (pv 1) pe_int (fun _ _ => rfl))) (blkOk_by (own := [("_law_one", 4)]) (N := ["_law_room", "_law_state", "_law_kept", "_law_gone", "_law_one", "_law_places", "_law_before", "_law_found"]) (sc := defScope s_l_pushed) (by decide +kernel)) (fun _ _ _ _ _ => pg_name (i := 4) sc_l_pushed.nd rfl (.inl rfl)) (fun _ _ _ _ _ => (pts_one (pt_cmpR (op_notInK (K := K) rfl) (pv 4) (pv 2) (by rfl)))) (fun _ _ _ _ _ => (pe_op op_addI pe_int (pe_callB (call_lenK (K := K) rfl) (by rfl) T.z_len (by decide +kernel) (pa_cons (pe_dget (hu_of hr) (pe_ix (ix_tupK (K := K) rfl) (pv 1) pe_int (fun _ _ => rfl)) (pv 4) (fun _ _ => rfl)) pa_nil))))) pa_nil)))
  (pss_cons (ps_set (i := 5) sc_l_pushed.nd rfl (.inr rfl) (pe_call (ok_l_places_of T) (hr.mono (by decide)) (by rfl) T.m__law_places_of T.F_l_places_of.kp T.b_l_places_of .nil pass0 (pa_cons (pe_ix (ix_tupK (K := K) rfl) (pv 1) pe_int (fun _ _ => rfl)) (pa_cons (pe_ix (ix_tupK (K := K) rfl) (pv 1) pe_int (fun _ _ => rfl)) pa_nil))))
  (pss_cons (ps_setLc (i := 6) (own := [("_law_one", 4)]) (g := gName 4) rfl sc_l_pushed.nd rfl rfl (sw_true rfl rfl rfl (by decide +kernel)) (pi_listK (K := K) rfl (pe_ix (ix_tupK (K := K) rfl) (pv 1) pe_int (fun _ _ => rfl))) (blkOk_by (own := [("_law_one", 4)]) (N := ["_law_room", "_law_state", "_law_kept", "_law_gone", "_law_one", "_law_places", "_law_before", "_law_found"]) (sc := defScope s_l_pushed) (by decide +kernel)) (fun _ _ _ _ _ => pg_name (i := 4) sc_l_pushed.nd rfl (.inl rfl)) (fun _ _ _ _ _ => pts_nil) (fun _ _ _ _ _ => (pe_dget (hu_of hr) (pv 5) (pv 4) (fun _ _ => rfl))))
  (pss_cons (ps_set (i := 7) sc_l_pushed.nd rfl (.inl rfl) (pe_meth0 (pv 0) T.clR T.me_Rpushed (ok_Rpushed T) (hr.mono (by decide)) T.b_Rpushed .nil pass0))
  (pss_cons (ps_expr (pe_bm0 PySem.F.plainAttrs_list PySem.F.slot_list_clear PySem.F.type_list_clear mt_clear (pe_ix (ix_tupK (K := K) rfl) (pv 1) pe_int (fun _ _ => rfl))))
  (pss_cons (ps_expr (pe_bm PySem.F.plainAttrs_list PySem.F.slot_list_extend PySem.F.type_list_extend mt_extend (pe_ix (ix_tupK (K := K) rfl) (pv 1) pe_int (fun _ _ => rfl)) (pa_cons (pv 2) pa_nil)))
  (pss_cons (ps_if (PW.pt (pw_or (pt_not (pt_val (pe_call (ok_l_words_are T) (hr.mono (by decide)) (by rfl) T.m__law_words_are T.F_l_words_are.kp T.b_l_words_are .nil pass0 (pa_cons (pe_lst (pa_cons (pv 7) pa_nil)) (pa_cons (pe_lst (pa_cons (pv 3) pa_nil)) pa_nil))))) (pw_or1 (pt_not (pt_val (pe_call (ok_l_no_boxes T) (hr.mono (by decide)) (by rfl) T.m__law_no_boxes T.F_l_no_boxes.kp T.b_l_no_boxes .nil pass0 (pa_cons (pv 0) (pa_cons (pv 1) (pa_cons (pe_op op_addI (pe_op op_mulI (pv 3) pe_int) (pe_callB (call_lenK (K := K) rfl) (by rfl) T.z_len (by decide +kernel) (pa_cons (pv 2) pa_nil))) (pa_cons (pv 6) pa_nil))))))))))
  (pss_one (ps_ret pe_bl))
  pss_nil)
  (pss_one (ps_ret (pe_call (ok_l_stands T) (hr.mono (by decide)) (by rfl) T.m__law_stands T.F_l_stands.kp T.b_l_stands .nil pass0 (pa_cons (pv 0) (pa_cons (pv 1) pa_nil))))))))))))), ?_⟩)
  obtain ⟨D0, p, r, o, f, nx, kp, sa, ids, fl, N, fresh, c, rfl, I, hc, k⟩ := h
  have hlen := I.len
  have h400 := I.ok.le
  have hsz := I.ok.sz
  have hpos : 0 < ids.length := List.length_pos_of_mem (st_mem0 I.st)
  have hkl : (kin ids fl).length ≤ 400 := by
    unfold kin
    have := List.length_filter_le (fun o => aliveT (bxsOf ids fl) (ids.idxOf o)) ids
    omega
  -- kept
  walk_at "rd"
  refine ⟨sa, _, 0, .ref o, rfl, rfl, .of I.stup, rfl, ?_⟩
  walk_at "rd"
  refine ⟨sa, _, 1, .ref f, rfl, rfl, .of I.stup, rfl, ?_⟩
  refine ⟨o, f, ids, fl, fresh, rfl, I.ord, I.fd, I.st, by omega, fun q1 H1 hq1 s1 eq1 => ?_⟩
  have I1 := I.grow s1
  obtain ⟨kvs, ef, kf⟩ := I1.fd
  -- gone
  walk_at "rd"
  refine ⟨sa, _, 0, .ref o, rfl, rfl, .of I1.stup, rfl, ?_⟩
  walk_at "rd"
  refine ⟨⟨_, .of I1.ord⟩, fun D hD => lc_list (K := K) (a := o) (xs := ids.map natV) (fun i H' => Same H1 H' ∧ H' D = some (.lst (((((ids.take i).filter fun x => !decide (x ∈ kin ids fl)).map fl).map fun fs => (1 : Int) + (fs.length : Int)).map V.int))) ⟨same_upd hD, upd_same⟩ (fun i H' _ p => .of (p.1 _ _ I1.ord)) (fun i x H' hx p => ?_) (fun H2 p => ?_)⟩
  · obtain ⟨a, ha, rfl⟩ := nat_get hx
    obtain ⟨l, el, F⟩ := kf a (List.mem_of_getElem? ha)
    obtain ⟨ts, ets, lts, _⟩ := id F
    have hi := (List.getElem?_eq_some_iff.mp ha).1
    refine ⟨rfl, ?_⟩
    walk_at "rd"
    refine ⟨q1, _, rfl, .inl (.of (p.1 _ _ eq1)), rfl, flat_nats _, ?_⟩
    walk_at "rd"
    rw [List.take_add_one, ha, Option.toList_some, List.filter_append]
    by_cases hm : a ∈ kin ids fl
    · refine ifF ?_ ?_
      · show (!inV (.int (a : Int)) ((kin ids fl).map natV)) = false
        rw [in_nats, decide_eq_true hm]
        rfl
      rw [List.filter_cons_of_neg (p := fun x => !decide (x ∈ kin ids fl)) (by rw [decide_eq_true hm]; decide), List.filter_nil, List.append_nil]
      exact p
    · refine ifT ?_ ?_
      · show (!inV (.int (a : Int)) ((kin ids fl).map natV)) = true
        rw [in_nats, decide_eq_false hm]
        rfl
      walk_at "rd"
      refine ⟨sa, _, 1, .ref f, rfl, rfl, .of (p.1 _ _ I1.stup), rfl, ?_⟩
      walk_at "rd"
      refine ⟨f, .ref l, rfl, dget (p.1 _ _ ef) el, ?_⟩
      refine ⟨l, _, rfl, .inl (.of (p.1 _ _ ets)), ?_⟩
      rw [List.length_map, lts]
      walk_at "rd"
      refine ⟨_, p.2, sz2001 (by rw [List.length_map, List.length_map, List.length_map]; have := List.length_filter_le (fun x => !decide (x ∈ kin ids fl)) (ids.take i); rw [List.length_take] at this; omega), same_mut hD p.1, ?_⟩
      rw [upd_same, List.filter_cons_of_pos (p := fun x => !decide (x ∈ kin ids fl)) (by rw [decide_eq_false hm]; rfl), List.filter_nil, List.map_append, List.map_append, List.map_append]
      rfl
  obtain ⟨p1, p2⟩ := p
  rw [List.length_map, List.take_length] at p2
  refine ⟨D, _, rfl, .of p2, ?_⟩
  rw [sum_sizes, gone_size I.st]
  have I2 := I1.grow p1
  have eq2 := p1 _ _ eq1
  clear p2 p1 hD ef kf kvs I1 eq1 s1
  -- the places
  walk_at "rd"
  refine ⟨sa, _, 0, .ref o, rfl, rfl, .of I2.stup, rfl, ?_⟩
  walk_at "rd"
  refine ⟨sa, _, 1, .ref f, rfl, rfl, .of I2.stup, rfl, ?_⟩
  refine ⟨o, f, ids, fl, rfl, I2.ord, I2.fd, I2.st.nd, by omega, fun g H3 hg s3 Pg => ?_⟩
  have I3 := I2.grow s3
  have eq3 := s3 _ _ eq2
  obtain ⟨gvs, eg, kg⟩ := id Pg
  -- before
  walk_at "rd"
  refine ⟨sa, _, 0, .ref o, rfl, rfl, .of I3.stup, rfl, ?_⟩
  walk_at "rd"
  refine ⟨⟨_, .of I3.ord⟩, fun b hb => lc_list (K := K) (a := o) (xs := ids.map natV) (fun j H' => Same H3 H' ∧ H' b = some (.lst (((ids.take j).map (plI ids fl)).map natV))) ⟨same_upd hb, upd_same⟩ (fun j H' _ p => .of (p.1 _ _ I3.ord)) (fun j x H' hx p => ?_) (fun H4 p => ?_)⟩
  · obtain ⟨a, ha, rfl⟩ := nat_get hx
    refine ⟨rfl, ?_⟩
    walk_at "rd"
    refine ⟨g, natV (plI ids fl a), rfl, dget (p.1 _ _ eg) (kg a (List.mem_of_getElem? ha)), ?_⟩
    refine ⟨_, p.2, sz2001 (by rw [List.length_map, List.length_map, List.length_take]; omega), same_mut hb p.1, ?_⟩
    rw [upd_same, List.take_add_one, ha, Option.toList_some, List.map_append, List.map_append]
    rfl
  obtain ⟨p1, p2⟩ := p
  rw [List.length_map, List.take_length] at p2
  have I4 := I3.grow p1
  have eq4 := p1 _ _ eq3
  have q1Out := I.out (t := q1) (.inl hq1)
  have bOut := I3.out (t := b) (.inl hb)
  have eb4 := p2
  clear p2 p1 hb eg kg gvs Pg I3 eq3 s3 hg I2 eq2 hq1
  -- pushed
  obtain ⟨⟨dx, eo⟩, er⟩ := id I4.room
  walk_at "rd"
  refine ⟨p, dx, _, rfl, eo, rmf_no _ _ (by decide +kernel) (by decide +kernel), ?_⟩
  walk_at "rd"
  refine ⟨p, r, bxsOf ids fl, N, rfl, I4.room, I4.ok, fun r' H5 hr' R5 bt => ?_⟩
  have J5 := SJ.roomNew I4 (.inr hr') R5 (kbI_ok I4.ok) (fun b x e h1 _ => bt b x e h1)
  have eq5 := bt _ _ eq4 (fun z => q1Out (by rw [z]; simp))
  have eb5 := bt _ _ eb4 (fun z => bOut (by rw [z]; simp))
  have q1o : q1 ≠ o := fun z => q1Out (by rw [z]; simp)
  have bo : b ≠ o := fun z => bOut (by rw [z]; simp)
  -- the order
  walk_at "rd"
  refine ⟨sa, _, 0, .ref o, rfl, rfl, .of J5.stup, rfl, ?_⟩
  refine ⟨.inl ⟨rfl, _, .of J5.ord⟩, ?_⟩
  refine ⟨o, _, rfl, rfl, J5.ord, ?_⟩
  have esa5 := J5.stup
  have nso : sa ≠ o := fun z => by
    have e := J5.ord
    rw [← z, esa5] at e
    cases e
  walk_at "rd"
  refine ⟨sa, _, 0, .ref o, rfl, rfl, .of (by rw [upd_ne nso]; exact esa5), rfl, ?_⟩
  refine ⟨.inl ⟨rfl, _, .of upd_same⟩, ?_⟩
  walk_at "rd"
  refine ⟨o, q1, [], _, rfl, rfl, upd_same, by rw [upd_ne q1o]; exact eq5, sz2000 (by rw [List.length_map]; show 0 + _ ≤ _; omega), ?_⟩
  rw [upd_twice, List.nil_append]
  have J6 := J5.setOrd (pushed_st I.st) fun i hi => kin_sub hi
  rw [← pushed_bxs I.st] at J6
  have eq6 : (upd H5 o (.lst ((kin ids fl).map natV))) q1 = some (.lst ((kin ids fl).map natV)) := by
    rw [upd_ne q1o]
    exact eq5
  have eb6 : (upd H5 o (.lst ((kin ids fl).map natV))) b = some (.lst ((ids.map (plI ids fl)).map natV)) := by
    rw [upd_ne bo]
    exact eb5
  clear nso esa5 bo q1o eb5 eq5 J5 bt R5 hr' er eo dx eb4 bOut q1Out eq4 I4
  revert J6 eq6 eb6
  generalize upd H5 o (.lst ((kin ids fl).map natV)) = H6
  intro J6 eq6 eb6
  -- as due
  walk_at "rd"
  refine ⟨by show 1 ≤ sizeLine; decide, fun a1 h1 => ?_⟩
  walk_at "rd"
  refine ⟨by show 1 ≤ sizeLine; decide, fun a2 h2 => ?_⟩
  have n12 : a1 ≠ a2 := fun z => by rw [← z, upd_same] at h2; cases h2
  have s7 := (same_upd (o := .lst [V.int ((sizeT (bxsOf ids fl) : Int) - (sizeT (kbI (bxsOf ids fl)) : Int))]) h1).trans (same_upd (o := .lst [V.int ((sizeT (bxsOf ids fl) : Int) - (sizeT (kbI (bxsOf ids fl)) : Int))]) h2)
  refine ⟨a1, a2, [(sizeT (bxsOf ids fl) : Int) - (sizeT (kbI (bxsOf ids fl)) : Int)], rfl, .of (by rw [upd_ne n12, upd_same]; rfl), .of upd_same, by show 1 ≤ 2000; decide, fun H8 s8 => ?_⟩
  have s9 := s7.trans s8
  have I8 := J6.grow s9
  walk_at "rd"
  refine ⟨q1, _, rfl, .inl (.of (s9 _ _ eq6)), ?_⟩
  walk_at "rd"
  refine ⟨D0, p, r', o, f, nx, kp, sa, b, kin ids fl, fl, N, fresh, c, _, ids.map (plI ids fl), rfl, I8, s9 _ _ eb6, by rw [List.length_map]; exact hpos, by rw [List.length_map]; omega, fun x hx => ?_, fun H9 s10 => ?_⟩
  · obtain ⟨o', ho, rfl⟩ := List.mem_map.mp hx
    have := sizeT_field (bxsOf_get (fl := fl) ho)
    unfold plI
    omega
  walk_at "rd"
  refine ⟨D0, p, r', o, f, nx, kp, sa, kin ids fl, fl, N, fresh, c, rfl, I8.grow s10, by omega, fun D' H' sD I9 => ?_⟩
  exact k D' H' r' sD I9
/-! #### law -/
def sp_law (K : PySem.W.Frag) : Sp := fun vs H Q _ => ∃ (a : Addr) (ns : List Int), vs = [.ref a] ∧ SqL K H a (ns.map V.int) ∧ ns.length ≤ 63 ∧ (∀ z ∈ ns, Builtin.Int.intBits z ≤ 1048576) ∧ ∀ H', Q (.bl true) H'
theorem ok_law (T : Txt K mg A) : FnOk P w K mg base CX0 9 A.f_law A.d_law ["_law_script"] (sp_law K) := by
  refine T.F_law.ok sc_law (fun vs H Q E h => by obtain ⟨a, ns, rfl, hS, hl, hb, h⟩ := h; rfl) (fun cdv A' outer s H vs Q E hr h => ⟨_, (pss_cons (ps_set (i := 1) sc_law.nd rfl (.inl rfl) (pe_call (ok_l_begun T) (hr.mono (by decide)) (by rfl) T.m__law_begun T.F_l_begun.kp T.b_l_begun .nil pass0 (pa_cons (pv 0) pa_nil)))
  (pss_cons (ps_set (i := 2) sc_law.nd rfl (.inl rfl) (pe_ix (ix_tupK (K := K) rfl) (pv 1) pe_int (fun _ _ => rfl)))
  (pss_cons (ps_set (i := 3) sc_law.nd rfl (.inl rfl) (pe_ix (ix_tupK (K := K) rfl) (pv 1) pe_int (fun _ _ => rfl)))
  (pss_cons (ps_for PassesOwn.never rfl (pi_range2 rfl T.z_range (pa_cons pe_int (pa_cons (pe_callB (call_min2 rfl) (by rfl) T.z_min (by decide +kernel) (pa_cons pe_int (pa_cons (pe_callB (call_lenK (K := K) rfl) (by rfl) T.z_len (by decide +kernel) (pa_cons (pv 0) pa_nil)) pa_nil))) pa_nil))) (pg_name (i := 4) sc_law.nd rfl (.inl rfl))
  (pss_cons (ps_set (i := 5) sc_law.nd rfl (.inl rfl) (pe_ix (ix_listK (K := K) rfl) (pv 0) (pv 4) (fun _ _ => rfl)))
  (pss_cons (ps_set (i := 6) sc_law.nd rfl (.inl rfl) (pe_op op_modI (pe_op op_addI (pe_op op_mulI (pv 5) pe_int) (pe_op op_mulI pe_int (pv 4))) pe_int))
  (Evl.pss_cut (ps_if (PW.pt (pw_and (pt_cmpR (op_inK (K := K) rfl) (pe_op op_modI (pv 5) pe_int) (pe_tup (pa_cons pe_int (pa_cons pe_int (pa_cons pe_int pa_nil)))) (by rfl)) (pw_and1 (pt_not (pt_val (pe_call (ok_l_made T) (hr.mono (by decide)) (by rfl) T.m__law_made T.F_l_made.kp T.b_l_made .nil pass0 (pa_cons (pv 2) (pa_cons (pv 3) (pa_cons (pv 5) (pa_cons (pv 6) pa_nil))))))))))
  (pss_one (ps_ret pe_bl))
  pss_nil)
  (Evl.pss_cut (ps_if (PW.pt (pw_and (pt_cmpR (op_inK (K := K) rfl) (pe_op op_modI (pv 5) pe_int) (pe_tup (pa_cons pe_int (pa_cons pe_int (pa_cons pe_int (pa_cons pe_int pa_nil))))) (by rfl)) (pw_and1 (pt_not (pt_val (pe_call (ok_l_put T) (hr.mono (by decide)) (by rfl) T.m__law_put T.F_l_put.kp T.b_l_put .nil pass0 (pa_cons (pv 2) (pa_cons (pv 3) (pa_cons (pv 6) pa_nil)))))))))
  (pss_one (ps_ret pe_bl))
  pss_nil)
  (Evl.pss_cut (ps_if (PW.pt (pw_and (pt_cmpR op_eq (pe_op op_modI (pv 4) pe_int) pe_int (nomark _)) (pw_and1 (pt_not (pt_val (pe_call (ok_l_stands T) (hr.mono (by decide)) (by rfl) T.m__law_stands T.F_l_stands.kp T.b_l_stands .nil pass0 (pa_cons (pv 2) (pa_cons (pv 3) pa_nil))))))))
  (pss_one (ps_ret pe_bl))
  pss_nil)
  (pss_one (ps_if (PW.pt (pw_and (pt_cmpR op_eq (pe_op op_modI (pv 5) pe_int) pe_int (nomark _)) (pw_and1 (pt_not (pt_val (pe_call (ok_l_pushed T) (hr.mono (by decide)) (by rfl) T.m__law_pushed T.F_l_pushed.kp T.b_l_pushed .nil pass0 (pa_cons (pv 2) (pa_cons (pv 3) pa_nil))))))))
  (pss_one (ps_ret pe_bl))
  pss_nil))))))))
  (pss_cons (ps_if (PW.pt (pw_or (pt_not (pt_val (pe_call (ok_l_stands T) (hr.mono (by decide)) (by rfl) T.m__law_stands T.F_l_stands.kp T.b_l_stands .nil pass0 (pa_cons (pv 2) (pa_cons (pv 3) pa_nil))))) (pw_or1 (pt_not (pt_val (pe_call (ok_l_pushed T) (hr.mono (by decide)) (by rfl) T.m__law_pushed T.F_l_pushed.kp T.b_l_pushed .nil pass0 (pa_cons (pv 2) (pa_cons (pv 3) pa_nil))))))))
  (pss_one (ps_ret pe_bl))
  pss_nil)
  (pss_one (ps_ret (pe_and (pe_call (ok_l_words_are T) (hr.mono (by decide)) (by rfl) T.m__law_words_are T.F_l_words_are.kp T.b_l_words_are .nil pass0 (pa_cons (pe_lst (pa_cons (pe_meth0 (pv 2) T.clR T.me_Rpushed (ok_Rpushed T) (hr.mono (by decide)) T.b_Rpushed .nil pass0) pa_nil)) (pa_cons (pe_lst (pa_cons pe_int pa_nil)) pa_nil))) (pe_one (pe_call (ok_l_stands T) (hr.mono (by decide)) (by rfl) T.m__law_stands T.F_l_stands.kp T.b_l_stands .nil pass0 (pa_cons (pv 2) (pa_cons (pv 3) pa_nil)))))))))))), ?_⟩)
  obtain ⟨a, ns, rfl, hS, hl, hb, h⟩ := h
  have hl' : ns.length ≤ 1000 := by omega
  walk_at "rd"
  refine ⟨a, ns, rfl, hS, hl', fun D H1 b p r o f nx kp sa N fl sHD eb I => ?_⟩
  walk_at "rd"
  refine ⟨b, _, 0, .ref p, rfl, rfl, .of eb, rfl, ?_⟩
  walk_at "rd"
  refine ⟨b, _, 1, .ref sa, rfl, rfl, .of eb, rfl, ?_⟩
  have hS2 := sHD.seq hS
  walk_at "rd"
  refine ⟨a, _, rfl, .inl (I.sub.seq hS2), ?_⟩
  rw [List.length_map]
  walk_at "rd"
  obtain ⟨c, ec, hc1, hc2⟩ : ∃ c : Nat, (if (ns.length : Int) < 23 then (ns.length : Int) else 23) = (c : Int) ∧ c ≤ 23 ∧ c ≤ ns.length := ⟨min ns.length 23, by split <;> omega, by omega, by omega⟩
  rw [ec]
  refine ⟨by omega, ?_⟩
  refine for_range (lo := 1) (n := _) (fun i σ' H' => ∃ (D' : Hp) (r : Addr) (ids : List Nat) (fl : Nat → List Th) (fresh : Nat) (y4 y5 y6 : Option V), σ' = [some (.ref a), some (.ref b), some (.ref p), some (.ref sa), y4, y5, y6] ∧ Same D D' ∧ SI A.c_Room D' H' p r o f nx kp sa ids fl N fresh (10 + 20 * i)) ⟨D, r, [0], fl, 1, none, none, none, rfl, Same.refl _, I⟩ ?_ ?_
  · clear I eb
    rintro i σ' H' hi ⟨D', r, ids, fl, fresh, y4, y5, y6, rfl, SD, I⟩
    have hi' : i < 22 := by omega
    have hin : 1 + i < ns.length := by omega
    have g : ns[1 + i]? = some ns[1 + i] := List.getElem?_eq_getElem hin
    rw [show (1 : Int) + (i : Int) = ((1 + i : Nat) : Int) by omega]
    walk_at "rd"
    refine ⟨a, _, ((1 + i : Nat) : Int), _, rfl, rfl, (SD.trans I.sub).seq hS2, at_int g, ?_⟩
    walk_at "rd"
    have bs : Builtin.Int.intBits ((ns[1 + i] * 48271 + 7919 * ((1 + i : Nat) : Int)) % 999983) ≤ 1000 := by
      obtain ⟨m', em', hm'⟩ := mod_nat (n := 999983) (ns[1 + i] * 48271 + 7919 * ((1 + i : Nat) : Int)) (by decide)
      rw [show (ns[1 + i] * 48271 + 7919 * ((1 + i : Nat) : Int)) % 999983 = (m' : Int) from em']
      exact bits_iff.mpr (Nat.lt_of_lt_of_le (show ((m' : Int)).natAbs < 2 ^ 20 by omega) (Nat.pow_le_pow_right (by decide) (by decide)))
    refine ⟨fun σ' H3 => ∃ (D3 : Hp) (r : Addr) (ids : List Nat) (fl : Nat → List Th) (fresh : Nat), σ' = [some (.ref a), some (.ref b), some (.ref p), some (.ref sa), some (.int ((1 + i : Nat) : Int)), some (.int ns[1 + i]), some (.int ((ns[1 + i] * 48271 + 7919 * ((1 + i : Nat) : Int)) % 999983))] ∧ Same D D3 ∧ SI A.c_Room D3 H3 p r o f nx kp sa ids fl N fresh (12 + 20 * i), ?_, ?_⟩
    · walk_at "rd"
      refine ⟨by show 3 ≤ sizeLine; decide, fun q hq => ?_⟩
      refine ⟨q, _, rfl, .inr (.of upd_same), rfl, rfl, ?_⟩
      have I1 := I.grow (same_upd (o := .tup [V.int 0, V.int 1, V.int 7]) hq)
      walk_at "rd"
      refine ite2 (fun _ => ?_) (fun _ => ?_)
      · walk_at "rd"
        refine ⟨D', p, r, o, f, nx, kp, sa, ids, fl, N, fresh, 10 + 20 * i, _, _, rfl, I1, by omega, bs, fun D3 H3 r3 ids3 fl3 fresh3 s3 I3 => ?_⟩
        walk_at "rd"
        exact ⟨D3, r3, ids3, fl3, fresh3, rfl, SD.trans s3, I3.more (by omega)⟩
      · exact ⟨D', r, ids, fl, fresh, rfl, SD, I1.more (by omega)⟩
    clear I SD fresh fl ids r D' H'
    rintro σ' H' ⟨D', r, ids, fl, fresh, rfl, SD, I⟩
    refine ⟨fun σ' H3 => ∃ (D3 : Hp) (r : Addr) (ids : List Nat) (fl : Nat → List Th) (fresh : Nat), σ' = [some (.ref a), some (.ref b), some (.ref p), some (.ref sa), some (.int ((1 + i : Nat) : Int)), some (.int ns[1 + i]), some (.int ((ns[1 + i] * 48271 + 7919 * ((1 + i : Nat) : Int)) % 999983))] ∧ Same D D3 ∧ SI A.c_Room D3 H3 p r o f nx kp sa ids fl N fresh (14 + 20 * i), ?_, ?_⟩
    · walk_at "rd"
      refine ⟨by show 4 ≤ sizeLine; decide, fun q hq => ?_⟩
      refine ⟨q, _, rfl, .inr (.of upd_same), rfl, rfl, ?_⟩
      have I1 := I.grow (same_upd (o := .tup [V.int 2, V.int 3, V.int 4, V.int 5]) hq)
      walk_at "rd"
      refine ite2 (fun _ => ?_) (fun _ => ?_)
      · walk_at "rd"
        refine ⟨D', p, r, o, f, nx, kp, sa, ids, fl, N, fresh, 12 + 20 * i, _, rfl, I1, by omega, bs, fun D3 H3 fl3 s3 I3 => ?_⟩
        walk_at "rd"
        exact ⟨D3, r, ids, fl3, fresh, rfl, SD.trans s3, I3.more (by omega)⟩
      · exact ⟨D', r, ids, fl, fresh, rfl, SD, I1.more (by omega)⟩
    clear I SD fresh fl ids r D' H'
    rintro σ' H' ⟨D', r, ids, fl, fresh, rfl, SD, I⟩
    refine ⟨fun σ' H3 => ∃ (D3 : Hp) (r : Addr) (ids : List Nat) (fl : Nat → List Th) (fresh : Nat), σ' = [some (.ref a), some (.ref b), some (.ref p), some (.ref sa), some (.int ((1 + i : Nat) : Int)), some (.int ns[1 + i]), some (.int ((ns[1 + i] * 48271 + 7919 * ((1 + i : Nat) : Int)) % 999983))] ∧ Same D D3 ∧ SI A.c_Room D3 H3 p r o f nx kp sa ids fl N fresh (20 + 20 * i), ?_, ?_⟩
    · walk_at "rd"
      refine ite2 (fun _ => ?_) (fun _ => ?_)
      · walk_at "rd"
        refine ⟨D', p, r, o, f, nx, kp, sa, ids, fl, N, fresh, 14 + 20 * i, rfl, I, by omega, fun D3 H3 s3 I3 => ?_⟩
        walk_at "rd"
        exact ⟨D3, r, ids, fl, fresh, rfl, SD.trans s3, I3.more (by omega)⟩
      · exact ⟨D', r, ids, fl, fresh, rfl, SD, I.more (by omega)⟩
    clear I SD fresh fl ids r D' H'
    rintro σ' H' ⟨D', r, ids, fl, fresh, rfl, SD, I⟩
    walk_at "rd"
    refine ite2 (fun _ => ?_) (fun _ => ?_)
    · walk_at "rd"
      refine ⟨D', p, r, o, f, nx, kp, sa, ids, fl, N, fresh, 20 + 20 * i, rfl, I, by omega, fun D3 H3 r3 s3 I3 => ?_⟩
      walk_at "rd"
      exact ⟨D3, r3, kin ids fl, fl, fresh, _, _, _, rfl, SD.trans s3, I3.more (by omega)⟩
    · exact ⟨D', r, ids, fl, fresh, _, _, _, rfl, SD, I.more (by omega)⟩
  · clear I eb
    rintro σ' H' ⟨D', r, ids, fl, fresh, y4, y5, y6, rfl, SD, I⟩
    have hcc : 10 + 20 * ((c : Int) - 1).toNat ≤ 1000 := by omega
    walk_at "rd"
    refine ⟨D', p, r, o, f, nx, kp, sa, ids, fl, N, fresh, _, rfl, I, by omega, fun D3 H3 s3 I3 => ?_⟩
    walk_at "rd"
    refine ⟨D3, p, r, o, f, nx, kp, sa, ids, fl, N, fresh, _, rfl, I3, by omega, fun D4 H4 r4 s4 I4 => ?_⟩
    -- pushed once more
    obtain ⟨⟨dx, eo⟩, er⟩ := id I4.room
    walk_at "rd"
    refine ⟨p, dx, _, rfl, eo, rmf_no _ _ (by decide +kernel) (by decide +kernel), ?_⟩
    walk_at "rd"
    refine ⟨p, r4, bxsOf (kin ids fl) fl, N, rfl, I4.room, I4.ok, fun r5 H5 hr5 R5 bt => ?_⟩
    have J5 := SJ.roomNew I4 (.inr hr5) R5 (kbI_ok I4.ok) (fun b x e h1 _ => bt b x e h1)
    rw [kbI_kin I.st] at J5 ⊢
    rw [Int.sub_self]
    refine ⟨by show 1 ≤ sizeLine; decide, fun a1 h1 => ?_⟩
    walk_at "rd"
    refine ⟨by show 1 ≤ sizeLine; decide, fun a2 h2 => ?_⟩
    have n12 : a1 ≠ a2 := fun z => by rw [← z, upd_same] at h2; cases h2
    have s6 := (same_upd (o := .lst [V.int 0]) h1).trans (same_upd (o := .lst [V.int 0]) h2)
    refine ⟨a1, a2, [0], rfl, .of (by rw [upd_ne n12, upd_same]; rfl), .of upd_same, by show 1 ≤ 2000; decide, fun H8 s8 => ?_⟩
    walk_at "rd"
    refine ⟨D4, p, r5, o, f, nx, kp, sa, kin ids fl, fl, N, fresh, _, rfl, J5.grow (s6.trans s8), by omega, fun D9 H9 s9 I9 => ?_⟩
    exact h _
end
/-! ### the end -/
theorem all_mk {l : PySem.W.OpenLaw} {w : World} {K : PySem.W.Frag} {h : Heap} {mg : Str → Option Value} {fa : Addr} (X : K.In h) (G : h.Ns mainGlobals mg) (hfa : mg "law" = some (.ref fa))
    {C_NoBox : Addr}
    {C_NoRoom : Addr}
    {C_Room : Addr}
    {f0 : Addr} {od0 an0 : Option Addr} {sl0 : Array (Option Value)} {oc0 kV0 dc0 pm0 cd0 ct0 : Value}
    (a0 : PySem.W.nsIn K mainGlobals "number_word" = some (some (.ref f0)))
    (l0 : K.lookup f0 = some ⟨oc0, od0, .func (PySem.W.fnOf "number_word" "number_word" (defArgs s_number_word) (defBody s_number_word) (defScope s_number_word) .none kV0 dc0 pm0 an0 cd0 ct0), sl0⟩) (c0 : PySem.W.codeIn K cd0 "number_word" = true) (k0 : PySem.W.keepIn K (.ref f0) = true)
    {f1 : Addr} {od1 an1 : Option Addr} {sl1 : Array (Option Value)} {oc1 kV1 dc1 pm1 cd1 ct1 : Value}
    (a1 : PySem.W.nsIn K mainGlobals "link_word" = some (some (.ref f1)))
    (l1 : K.lookup f1 = some ⟨oc1, od1, .func (PySem.W.fnOf "link_word" "link_word" (defArgs s_link_word) (defBody s_link_word) (defScope s_link_word) .none kV1 dc1 pm1 an1 cd1 ct1), sl1⟩) (c1 : PySem.W.codeIn K cd1 "link_word" = true) (k1 : PySem.W.keepIn K (.ref f1) = true)
    {f2 : Addr} {od2 an2 : Option Addr} {sl2 : Array (Option Value)} {oc2 kV2 dc2 pm2 cd2 ct2 : Value}
    (a2 : PySem.W.nsIn K mainGlobals "head_word" = some (some (.ref f2)))
    (l2 : K.lookup f2 = some ⟨oc2, od2, .func (PySem.W.fnOf "head_word" "head_word" (defArgs s_head_word) (defBody s_head_word) (defScope s_head_word) .none kV2 dc2 pm2 an2 cd2 ct2), sl2⟩) (c2 : PySem.W.codeIn K cd2 "head_word" = true) (k2 : PySem.W.keepIn K (.ref f2) = true)
    {f3 : Addr} {od3 an3 : Option Addr} {sl3 : Array (Option Value)} {oc3 kV3 dc3 pm3 cd3 ct3 : Value}
    (a3 : PySem.W.nsIn K mainGlobals "is_link" = some (some (.ref f3)))
    (l3 : K.lookup f3 = some ⟨oc3, od3, .func (PySem.W.fnOf "is_link" "is_link" (defArgs s_is_link) (defBody s_is_link) (defScope s_is_link) .none kV3 dc3 pm3 an3 cd3 ct3), sl3⟩) (c3 : PySem.W.codeIn K cd3 "is_link" = true) (k3 : PySem.W.keepIn K (.ref f3) = true)
    {f4 : Addr} {od4 an4 : Option Addr} {sl4 : Array (Option Value)} {oc4 kV4 dc4 pm4 cd4 ct4 : Value}
    (a4 : PySem.W.nsIn K mainGlobals "told_by" = some (some (.ref f4)))
    (l4 : K.lookup f4 = some ⟨oc4, od4, .func (PySem.W.fnOf "told_by" "told_by" (defArgs s_told_by) (defBody s_told_by) (defScope s_told_by) .none kV4 dc4 pm4 an4 cd4 ct4), sl4⟩) (c4 : PySem.W.codeIn K cd4 "told_by" = true) (k4 : PySem.W.keepIn K (.ref f4) = true)
    {f5 : Addr} {od5 an5 : Option Addr} {sl5 : Array (Option Value)} {oc5 kV5 dc5 pm5 cd5 ct5 : Value}
    (a5 : PySem.W.nsIn K mainGlobals "fields_of" = some (some (.ref f5)))
    (l5 : K.lookup f5 = some ⟨oc5, od5, .func (PySem.W.fnOf "fields_of" "fields_of" (defArgs s_fields_of) (defBody s_fields_of) (defScope s_fields_of) .none kV5 dc5 pm5 an5 cd5 ct5), sl5⟩) (c5 : PySem.W.codeIn K cd5 "fields_of" = true) (k5 : PySem.W.keepIn K (.ref f5) = true)
    {f6 : Addr} {od6 an6 : Option Addr} {sl6 : Array (Option Value)} {oc6 kV6 dc6 pm6 cd6 ct6 : Value}
    (a6 : PySem.W.nsIn K mainGlobals "is_marked" = some (some (.ref f6)))
    (l6 : K.lookup f6 = some ⟨oc6, od6, .func (PySem.W.fnOf "is_marked" "is_marked" (defArgs s_is_marked) (defBody s_is_marked) (defScope s_is_marked) .none kV6 dc6 pm6 an6 cd6 ct6), sl6⟩) (c6 : PySem.W.codeIn K cd6 "is_marked" = true) (k6 : PySem.W.keepIn K (.ref f6) = true)
    {f7 : Addr} {od7 an7 : Option Addr} {sl7 : Array (Option Value)} {oc7 kV7 dc7 pm7 cd7 ct7 : Value}
    (a7 : PySem.W.nsIn K mainGlobals "hung" = some (some (.ref f7)))
    (l7 : K.lookup f7 = some ⟨oc7, od7, .func (PySem.W.fnOf "hung" "hung" (defArgs s_hung) (defBody s_hung) (defScope s_hung) .none kV7 dc7 pm7 an7 cd7 ct7), sl7⟩) (c7 : PySem.W.codeIn K cd7 "hung" = true) (k7 : PySem.W.keepIn K (.ref f7) = true)
    {f8 : Addr} {od8 an8 : Option Addr} {sl8 : Array (Option Value)} {oc8 kV8 dc8 pm8 cd8 ct8 : Value}
    (a8 : PySem.W.nsIn K mainGlobals "led" = some (some (.ref f8)))
    (l8 : K.lookup f8 = some ⟨oc8, od8, .func (PySem.W.fnOf "led" "led" (defArgs s_led) (defBody s_led) (defScope s_led) .none kV8 dc8 pm8 an8 cd8 ct8), sl8⟩) (c8 : PySem.W.codeIn K cd8 "led" = true) (k8 : PySem.W.keepIn K (.ref f8) = true)
    {f9 : Addr} {od9 an9 : Option Addr} {sl9 : Array (Option Value)} {oc9 kV9 dc9 pm9 cd9 ct9 : Value}
    (a9 : PySem.W.nsIn K mainGlobals "heads" = some (some (.ref f9)))
    (l9 : K.lookup f9 = some ⟨oc9, od9, .func (PySem.W.fnOf "heads" "heads" (defArgs s_heads) (defBody s_heads) (defScope s_heads) .none kV9 dc9 pm9 an9 cd9 ct9), sl9⟩) (c9 : PySem.W.codeIn K cd9 "heads" = true) (k9 : PySem.W.keepIn K (.ref f9) = true)
    {f10 : Addr} {od10 an10 : Option Addr} {sl10 : Array (Option Value)} {oc10 kV10 dc10 pm10 cd10 ct10 : Value}
    (a10 : PySem.W.nsIn K mainGlobals "marked" = some (some (.ref f10)))
    (l10 : K.lookup f10 = some ⟨oc10, od10, .func (PySem.W.fnOf "marked" "marked" (defArgs s_marked) (defBody s_marked) (defScope s_marked) .none kV10 dc10 pm10 an10 cd10 ct10), sl10⟩) (c10 : PySem.W.codeIn K cd10 "marked" = true) (k10 : PySem.W.keepIn K (.ref f10) = true)
    {f11 : Addr} {od11 an11 : Option Addr} {sl11 : Array (Option Value)} {oc11 kV11 dc11 pm11 cd11 ct11 : Value}
    (a11 : PySem.W.nsIn K mainGlobals "stays" = some (some (.ref f11)))
    (l11 : K.lookup f11 = some ⟨oc11, od11, .func (PySem.W.fnOf "stays" "stays" (defArgs s_stays) (defBody s_stays) (defScope s_stays) .none kV11 dc11 pm11 an11 cd11 ct11), sl11⟩) (c11 : PySem.W.codeIn K cd11 "stays" = true) (k11 : PySem.W.keepIn K (.ref f11) = true)
    {f12 : Addr} {od12 an12 : Option Addr} {sl12 : Array (Option Value)} {oc12 kV12 dc12 pm12 cd12 ct12 : Value}
    (a12 : PySem.W.nsIn K mainGlobals "hung_up" = some (some (.ref f12)))
    (l12 : K.lookup f12 = some ⟨oc12, od12, .func (PySem.W.fnOf "hung_up" "hung_up" (defArgs s_hung_up) (defBody s_hung_up) (defScope s_hung_up) .none kV12 dc12 pm12 an12 cd12 ct12), sl12⟩) (c12 : PySem.W.codeIn K cd12 "hung_up" = true) (k12 : PySem.W.keepIn K (.ref f12) = true)
    {f13 : Addr} {od13 an13 : Option Addr} {sl13 : Array (Option Value)} {oc13 kV13 dc13 pm13 cd13 ct13 : Value}
    (a13 : PySem.W.nsIn K mainGlobals "slid" = some (some (.ref f13)))
    (l13 : K.lookup f13 = some ⟨oc13, od13, .func (PySem.W.fnOf "slid" "slid" (defArgs s_slid) (defBody s_slid) (defScope s_slid) .none kV13 dc13 pm13 an13 cd13 ct13), sl13⟩) (c13 : PySem.W.codeIn K cd13 "slid" = true) (k13 : PySem.W.keepIn K (.ref f13) = true)
    {f14 : Addr} {od14 an14 : Option Addr} {sl14 : Array (Option Value)} {oc14 kV14 dc14 pm14 cd14 ct14 : Value}
    (a14 : PySem.W.nsIn K mainGlobals "pushed" = some (some (.ref f14)))
    (l14 : K.lookup f14 = some ⟨oc14, od14, .func (PySem.W.fnOf "pushed" "pushed" (defArgs s_pushed) (defBody s_pushed) (defScope s_pushed) .none kV14 dc14 pm14 an14 cd14 ct14), sl14⟩) (c14 : PySem.W.codeIn K cd14 "pushed" = true) (k14 : PySem.W.keepIn K (.ref f14) = true)
    {f15 : Addr} {od15 an15 : Option Addr} {sl15 : Array (Option Value)} {oc15 kV15 dc15 pm15 cd15 ct15 : Value}
    (a15 : PySem.W.nsIn K mainGlobals "is_whole" = some (some (.ref f15)))
    (l15 : K.lookup f15 = some ⟨oc15, od15, .func (PySem.W.fnOf "is_whole" "is_whole" (defArgs s_is_whole) (defBody s_is_whole) (defScope s_is_whole) .none kV15 dc15 pm15 an15 cd15 ct15), sl15⟩) (c15 : PySem.W.codeIn K cd15 "is_whole" = true) (k15 : PySem.W.keepIn K (.ref f15) = true)
    {f16 : Addr} {od16 an16 : Option Addr} {sl16 : Array (Option Value)} {oc16 kV16 dc16 pm16 cd16 ct16 : Value}
    (a16 : PySem.W.nsIn K mainGlobals "need_thing" = some (some (.ref f16)))
    (l16 : K.lookup f16 = some ⟨oc16, od16, .func (PySem.W.fnOf "need_thing" "need_thing" (defArgs s_need_thing) (defBody s_need_thing) (defScope s_need_thing) .none kV16 dc16 pm16 an16 cd16 ct16), sl16⟩) (c16 : PySem.W.codeIn K cd16 "need_thing" = true) (k16 : PySem.W.keepIn K (.ref f16) = true)
    {f17 : Addr} {od17 an17 : Option Addr} {sl17 : Array (Option Value)} {oc17 kV17 dc17 pm17 cd17 ct17 : Value}
    (a17 : PySem.W.nsIn K mainGlobals "thing_of" = some (some (.ref f17)))
    (l17 : K.lookup f17 = some ⟨oc17, od17, .func (PySem.W.fnOf "thing_of" "thing_of" (defArgs s_thing_of) (defBody s_thing_of) (defScope s_thing_of) .none kV17 dc17 pm17 an17 cd17 ct17), sl17⟩) (c17 : PySem.W.codeIn K cd17 "thing_of" = true) (k17 : PySem.W.keepIn K (.ref f17) = true)
    {f18 : Addr} {od18 an18 : Option Addr} {sl18 : Array (Option Value)} {oc18 kV18 dc18 pm18 cd18 ct18 : Value}
    (a18 : PySem.W.findIn K (.ref C_Room) "__init__" = some (some (.ref f18))) (i18 : PySem.W.isFn K (.ref f18) = true)
    (l18 : K.lookup f18 = some ⟨oc18, od18, .func (PySem.W.fnOf "__init__" "Room.__init__" (defArgs s_Rinit) (defBody s_Rinit) (defScope s_Rinit) .none kV18 dc18 pm18 an18 cd18 ct18), sl18⟩) (c18 : PySem.W.codeIn K cd18 "Room.__init__" = true) (k18 : PySem.W.keepIn K (.ref f18) = true)
    {f19 : Addr} {od19 an19 : Option Addr} {sl19 : Array (Option Value)} {oc19 kV19 dc19 pm19 cd19 ct19 : Value}
    (a19 : PySem.W.findIn K (.ref C_Room) "need_box" = some (some (.ref f19))) (i19 : PySem.W.isFn K (.ref f19) = true)
    (l19 : K.lookup f19 = some ⟨oc19, od19, .func (PySem.W.fnOf "need_box" "Room.need_box" (defArgs s_Rneed_box) (defBody s_Rneed_box) (defScope s_Rneed_box) .none kV19 dc19 pm19 an19 cd19 ct19), sl19⟩) (c19 : PySem.W.codeIn K cd19 "Room.need_box" = true) (k19 : PySem.W.keepIn K (.ref f19) = true)
    {f20 : Addr} {od20 an20 : Option Addr} {sl20 : Array (Option Value)} {oc20 kV20 dc20 pm20 cd20 ct20 : Value}
    (a20 : PySem.W.findIn K (.ref C_Room) "word_of" = some (some (.ref f20))) (i20 : PySem.W.isFn K (.ref f20) = true)
    (l20 : K.lookup f20 = some ⟨oc20, od20, .func (PySem.W.fnOf "word_of" "Room.word_of" (defArgs s_Rword_of) (defBody s_Rword_of) (defScope s_Rword_of) .none kV20 dc20 pm20 an20 cd20 ct20), sl20⟩) (c20 : PySem.W.codeIn K cd20 "Room.word_of" = true) (k20 : PySem.W.keepIn K (.ref f20) = true)
    {f21 : Addr} {od21 an21 : Option Addr} {sl21 : Array (Option Value)} {oc21 kV21 dc21 pm21 cd21 ct21 : Value}
    (a21 : PySem.W.findIn K (.ref C_Room) "made" = some (some (.ref f21))) (i21 : PySem.W.isFn K (.ref f21) = true)
    (l21 : K.lookup f21 = some ⟨oc21, od21, .func (PySem.W.fnOf "made" "Room.made" (defArgs s_Rmade) (defBody s_Rmade) (defScope s_Rmade) .none kV21 dc21 pm21 an21 cd21 ct21), sl21⟩) (c21 : PySem.W.codeIn K cd21 "Room.made" = true) (k21 : PySem.W.keepIn K (.ref f21) = true)
    {f22 : Addr} {od22 an22 : Option Addr} {sl22 : Array (Option Value)} {oc22 kV22 dc22 pm22 cd22 ct22 : Value}
    (a22 : PySem.W.findIn K (.ref C_Room) "put" = some (some (.ref f22))) (i22 : PySem.W.isFn K (.ref f22) = true)
    (l22 : K.lookup f22 = some ⟨oc22, od22, .func (PySem.W.fnOf "put" "Room.put" (defArgs s_Rput) (defBody s_Rput) (defScope s_Rput) .none kV22 dc22 pm22 an22 cd22 ct22), sl22⟩) (c22 : PySem.W.codeIn K cd22 "Room.put" = true) (k22 : PySem.W.keepIn K (.ref f22) = true)
    {f23 : Addr} {od23 an23 : Option Addr} {sl23 : Array (Option Value)} {oc23 kV23 dc23 pm23 cd23 ct23 : Value}
    (a23 : PySem.W.findIn K (.ref C_Room) "told" = some (some (.ref f23))) (i23 : PySem.W.isFn K (.ref f23) = true)
    (l23 : K.lookup f23 = some ⟨oc23, od23, .func (PySem.W.fnOf "told" "Room.told" (defArgs s_Rtold) (defBody s_Rtold) (defScope s_Rtold) .none kV23 dc23 pm23 an23 cd23 ct23), sl23⟩) (c23 : PySem.W.codeIn K cd23 "Room.told" = true) (k23 : PySem.W.keepIn K (.ref f23) = true)
    {f24 : Addr} {od24 an24 : Option Addr} {sl24 : Array (Option Value)} {oc24 kV24 dc24 pm24 cd24 ct24 : Value}
    (a24 : PySem.W.findIn K (.ref C_Room) "places" = some (some (.ref f24))) (i24 : PySem.W.isFn K (.ref f24) = true)
    (l24 : K.lookup f24 = some ⟨oc24, od24, .func (PySem.W.fnOf "places" "Room.places" (defArgs s_Rplaces) (defBody s_Rplaces) (defScope s_Rplaces) .none kV24 dc24 pm24 an24 cd24 ct24), sl24⟩) (c24 : PySem.W.codeIn K cd24 "Room.places" = true) (k24 : PySem.W.keepIn K (.ref f24) = true)
    {f25 : Addr} {od25 an25 : Option Addr} {sl25 : Array (Option Value)} {oc25 kV25 dc25 pm25 cd25 ct25 : Value}
    (a25 : PySem.W.findIn K (.ref C_Room) "come_to" = some (some (.ref f25))) (i25 : PySem.W.isFn K (.ref f25) = true)
    (l25 : K.lookup f25 = some ⟨oc25, od25, .func (PySem.W.fnOf "come_to" "Room.come_to" (defArgs s_Rcome_to) (defBody s_Rcome_to) (defScope s_Rcome_to) .none kV25 dc25 pm25 an25 cd25 ct25), sl25⟩) (c25 : PySem.W.codeIn K cd25 "Room.come_to" = true) (k25 : PySem.W.keepIn K (.ref f25) = true)
    {f26 : Addr} {od26 an26 : Option Addr} {sl26 : Array (Option Value)} {oc26 kV26 dc26 pm26 cd26 ct26 : Value}
    (a26 : PySem.W.findIn K (.ref C_Room) "pushed" = some (some (.ref f26))) (i26 : PySem.W.isFn K (.ref f26) = true)
    (l26 : K.lookup f26 = some ⟨oc26, od26, .func (PySem.W.fnOf "pushed" "Room.pushed" (defArgs s_Rpushed) (defBody s_Rpushed) (defScope s_Rpushed) .none kV26 dc26 pm26 an26 cd26 ct26), sl26⟩) (c26 : PySem.W.codeIn K cd26 "Room.pushed" = true) (k26 : PySem.W.keepIn K (.ref f26) = true)
    {f27 : Addr} {od27 an27 : Option Addr} {sl27 : Array (Option Value)} {oc27 kV27 dc27 pm27 cd27 ct27 : Value}
    (a27 : PySem.W.findIn K (.ref C_Room) "used" = some (some (.ref f27))) (i27 : PySem.W.isFn K (.ref f27) = true)
    (l27 : K.lookup f27 = some ⟨oc27, od27, .func (PySem.W.fnOf "used" "Room.used" (defArgs s_Rused) (defBody s_Rused) (defScope s_Rused) .none kV27 dc27 pm27 an27 cd27 ct27), sl27⟩) (c27 : PySem.W.codeIn K cd27 "Room.used" = true) (k27 : PySem.W.keepIn K (.ref f27) = true)
    {f28 : Addr} {od28 an28 : Option Addr} {sl28 : Array (Option Value)} {oc28 kV28 dc28 pm28 cd28 ct28 : Value}
    (a28 : PySem.W.findIn K (.ref C_Room) "cells" = some (some (.ref f28))) (i28 : PySem.W.isFn K (.ref f28) = true)
    (l28 : K.lookup f28 = some ⟨oc28, od28, .func (PySem.W.fnOf "cells" "Room.cells" (defArgs s_Rcells) (defBody s_Rcells) (defScope s_Rcells) .none kV28 dc28 pm28 an28 cd28 ct28), sl28⟩) (c28 : PySem.W.codeIn K cd28 "Room.cells" = true) (k28 : PySem.W.keepIn K (.ref f28) = true)
    {f29 : Addr} {od29 an29 : Option Addr} {sl29 : Array (Option Value)} {oc29 kV29 dc29 pm29 cd29 ct29 : Value}
    (a29 : PySem.W.nsIn K mainGlobals "_law_at" = some (some (.ref f29)))
    (l29 : K.lookup f29 = some ⟨oc29, od29, .func (PySem.W.fnOf "_law_at" "_law_at" (defArgs s_l_at) (defBody s_l_at) (defScope s_l_at) .none kV29 dc29 pm29 an29 cd29 ct29), sl29⟩) (c29 : PySem.W.codeIn K cd29 "_law_at" = true) (k29 : PySem.W.keepIn K (.ref f29) = true)
    {f30 : Addr} {od30 an30 : Option Addr} {sl30 : Array (Option Value)} {oc30 kV30 dc30 pm30 cd30 ct30 : Value}
    (a30 : PySem.W.nsIn K mainGlobals "_law_is_int" = some (some (.ref f30)))
    (l30 : K.lookup f30 = some ⟨oc30, od30, .func (PySem.W.fnOf "_law_is_int" "_law_is_int" (defArgs s_l_is_int) (defBody s_l_is_int) (defScope s_l_is_int) .none kV30 dc30 pm30 an30 cd30 ct30), sl30⟩) (c30 : PySem.W.codeIn K cd30 "_law_is_int" = true) (k30 : PySem.W.keepIn K (.ref f30) = true)
    {f31 : Addr} {od31 an31 : Option Addr} {sl31 : Array (Option Value)} {oc31 kV31 dc31 pm31 cd31 ct31 : Value}
    (a31 : PySem.W.nsIn K mainGlobals "_law_words_are" = some (some (.ref f31)))
    (l31 : K.lookup f31 = some ⟨oc31, od31, .func (PySem.W.fnOf "_law_words_are" "_law_words_are" (defArgs s_l_words_are) (defBody s_l_words_are) (defScope s_l_words_are) .none kV31 dc31 pm31 an31 cd31 ct31), sl31⟩) (c31 : PySem.W.codeIn K cd31 "_law_words_are" = true) (k31 : PySem.W.keepIn K (.ref f31) = true)
    {f32 : Addr} {od32 an32 : Option Addr} {sl32 : Array (Option Value)} {oc32 kV32 dc32 pm32 cd32 ct32 : Value}
    (a32 : PySem.W.nsIn K mainGlobals "_law_number" = some (some (.ref f32)))
    (l32 : K.lookup f32 = some ⟨oc32, od32, .func (PySem.W.fnOf "_law_number" "_law_number" (defArgs s_l_number) (defBody s_l_number) (defScope s_l_number) .none kV32 dc32 pm32 an32 cd32 ct32), sl32⟩) (c32 : PySem.W.codeIn K cd32 "_law_number" = true) (k32 : PySem.W.keepIn K (.ref f32) = true)
    {f33 : Addr} {od33 an33 : Option Addr} {sl33 : Array (Option Value)} {oc33 kV33 dc33 pm33 cd33 ct33 : Value}
    (a33 : PySem.W.nsIn K mainGlobals "_law_places_of" = some (some (.ref f33)))
    (l33 : K.lookup f33 = some ⟨oc33, od33, .func (PySem.W.fnOf "_law_places_of" "_law_places_of" (defArgs s_l_places_of) (defBody s_l_places_of) (defScope s_l_places_of) .none kV33 dc33 pm33 an33 cd33 ct33), sl33⟩) (c33 : PySem.W.codeIn K cd33 "_law_places_of" = true) (k33 : PySem.W.keepIn K (.ref f33) = true)
    {f34 : Addr} {od34 an34 : Option Addr} {sl34 : Array (Option Value)} {oc34 kV34 dc34 pm34 cd34 ct34 : Value}
    (a34 : PySem.W.nsIn K mainGlobals "_law_cells_of" = some (some (.ref f34)))
    (l34 : K.lookup f34 = some ⟨oc34, od34, .func (PySem.W.fnOf "_law_cells_of" "_law_cells_of" (defArgs s_l_cells_of) (defBody s_l_cells_of) (defScope s_l_cells_of) .none kV34 dc34 pm34 an34 cd34 ct34), sl34⟩) (c34 : PySem.W.codeIn K cd34 "_law_cells_of" = true) (k34 : PySem.W.keepIn K (.ref f34) = true)
    {f35 : Addr} {od35 an35 : Option Addr} {sl35 : Array (Option Value)} {oc35 kV35 dc35 pm35 cd35 ct35 : Value}
    (a35 : PySem.W.nsIn K mainGlobals "_law_thing" = some (some (.ref f35)))
    (l35 : K.lookup f35 = some ⟨oc35, od35, .func (PySem.W.fnOf "_law_thing" "_law_thing" (defArgs s_l_thing) (defBody s_l_thing) (defScope s_l_thing) .none kV35 dc35 pm35 an35 cd35 ct35), sl35⟩) (c35 : PySem.W.codeIn K cd35 "_law_thing" = true) (k35 : PySem.W.keepIn K (.ref f35) = true)
    {f36 : Addr} {od36 an36 : Option Addr} {sl36 : Array (Option Value)} {oc36 kV36 dc36 pm36 cd36 ct36 : Value}
    (a36 : PySem.W.nsIn K mainGlobals "_law_handed" = some (some (.ref f36)))
    (l36 : K.lookup f36 = some ⟨oc36, od36, .func (PySem.W.fnOf "_law_handed" "_law_handed" (defArgs s_l_handed) (defBody s_l_handed) (defScope s_l_handed) .none kV36 dc36 pm36 an36 cd36 ct36), sl36⟩) (c36 : PySem.W.codeIn K cd36 "_law_handed" = true) (k36 : PySem.W.keepIn K (.ref f36) = true)
    {f37 : Addr} {od37 an37 : Option Addr} {sl37 : Array (Option Value)} {oc37 kV37 dc37 pm37 cd37 ct37 : Value}
    (a37 : PySem.W.nsIn K mainGlobals "_law_come_to" = some (some (.ref f37)))
    (l37 : K.lookup f37 = some ⟨oc37, od37, .func (PySem.W.fnOf "_law_come_to" "_law_come_to" (defArgs s_l_come_to) (defBody s_l_come_to) (defScope s_l_come_to) .none kV37 dc37 pm37 an37 cd37 ct37), sl37⟩) (c37 : PySem.W.codeIn K cd37 "_law_come_to" = true) (k37 : PySem.W.keepIn K (.ref f37) = true)
    {f38 : Addr} {od38 an38 : Option Addr} {sl38 : Array (Option Value)} {oc38 kV38 dc38 pm38 cd38 ct38 : Value}
    (a38 : PySem.W.nsIn K mainGlobals "_law_many" = some (some (.ref f38)))
    (l38 : K.lookup f38 = some ⟨oc38, od38, .func (PySem.W.fnOf "_law_many" "_law_many" (defArgs s_l_many) (defBody s_l_many) (defScope s_l_many) .none kV38 dc38 pm38 an38 cd38 ct38), sl38⟩) (c38 : PySem.W.codeIn K cd38 "_law_many" = true) (k38 : PySem.W.keepIn K (.ref f38) = true)
    {f39 : Addr} {od39 an39 : Option Addr} {sl39 : Array (Option Value)} {oc39 kV39 dc39 pm39 cd39 ct39 : Value}
    (a39 : PySem.W.nsIn K mainGlobals "_law_made" = some (some (.ref f39)))
    (l39 : K.lookup f39 = some ⟨oc39, od39, .func (PySem.W.fnOf "_law_made" "_law_made" (defArgs s_l_made) (defBody s_l_made) (defScope s_l_made) .none kV39 dc39 pm39 an39 cd39 ct39), sl39⟩) (c39 : PySem.W.codeIn K cd39 "_law_made" = true) (k39 : PySem.W.keepIn K (.ref f39) = true)
    {f40 : Addr} {od40 an40 : Option Addr} {sl40 : Array (Option Value)} {oc40 kV40 dc40 pm40 cd40 ct40 : Value}
    (a40 : PySem.W.nsIn K mainGlobals "_law_put" = some (some (.ref f40)))
    (l40 : K.lookup f40 = some ⟨oc40, od40, .func (PySem.W.fnOf "_law_put" "_law_put" (defArgs s_l_put) (defBody s_l_put) (defScope s_l_put) .none kV40 dc40 pm40 an40 cd40 ct40), sl40⟩) (c40 : PySem.W.codeIn K cd40 "_law_put" = true) (k40 : PySem.W.keepIn K (.ref f40) = true)
    {f41 : Addr} {od41 an41 : Option Addr} {sl41 : Array (Option Value)} {oc41 kV41 dc41 pm41 cd41 ct41 : Value}
    (a41 : PySem.W.nsIn K mainGlobals "_law_told" = some (some (.ref f41)))
    (l41 : K.lookup f41 = some ⟨oc41, od41, .func (PySem.W.fnOf "_law_told" "_law_told" (defArgs s_l_told) (defBody s_l_told) (defScope s_l_told) .none kV41 dc41 pm41 an41 cd41 ct41), sl41⟩) (c41 : PySem.W.codeIn K cd41 "_law_told" = true) (k41 : PySem.W.keepIn K (.ref f41) = true)
    {f42 : Addr} {od42 an42 : Option Addr} {sl42 : Array (Option Value)} {oc42 kV42 dc42 pm42 cd42 ct42 : Value}
    (a42 : PySem.W.nsIn K mainGlobals "_law_stands" = some (some (.ref f42)))
    (l42 : K.lookup f42 = some ⟨oc42, od42, .func (PySem.W.fnOf "_law_stands" "_law_stands" (defArgs s_l_stands) (defBody s_l_stands) (defScope s_l_stands) .none kV42 dc42 pm42 an42 cd42 ct42), sl42⟩) (c42 : PySem.W.codeIn K cd42 "_law_stands" = true) (k42 : PySem.W.keepIn K (.ref f42) = true)
    {f43 : Addr} {od43 an43 : Option Addr} {sl43 : Array (Option Value)} {oc43 kV43 dc43 pm43 cd43 ct43 : Value}
    (a43 : PySem.W.nsIn K mainGlobals "_law_begun" = some (some (.ref f43)))
    (l43 : K.lookup f43 = some ⟨oc43, od43, .func (PySem.W.fnOf "_law_begun" "_law_begun" (defArgs s_l_begun) (defBody s_l_begun) (defScope s_l_begun) .none kV43 dc43 pm43 an43 cd43 ct43), sl43⟩) (c43 : PySem.W.codeIn K cd43 "_law_begun" = true) (k43 : PySem.W.keepIn K (.ref f43) = true)
    {f44 : Addr} {od44 an44 : Option Addr} {sl44 : Array (Option Value)} {oc44 kV44 dc44 pm44 cd44 ct44 : Value}
    (a44 : PySem.W.nsIn K mainGlobals "_law_refused" = some (some (.ref f44)))
    (l44 : K.lookup f44 = some ⟨oc44, od44, .func (PySem.W.fnOf "_law_refused" "_law_refused" (defArgs s_l_refused) (defBody s_l_refused) (defScope s_l_refused) .none kV44 dc44 pm44 an44 cd44 ct44), sl44⟩) (c44 : PySem.W.codeIn K cd44 "_law_refused" = true) (k44 : PySem.W.keepIn K (.ref f44) = true)
    {f45 : Addr} {od45 an45 : Option Addr} {sl45 : Array (Option Value)} {oc45 kV45 dc45 pm45 cd45 ct45 : Value}
    (a45 : PySem.W.nsIn K mainGlobals "_law_no_boxes" = some (some (.ref f45)))
    (l45 : K.lookup f45 = some ⟨oc45, od45, .func (PySem.W.fnOf "_law_no_boxes" "_law_no_boxes" (defArgs s_l_no_boxes) (defBody s_l_no_boxes) (defScope s_l_no_boxes) .none kV45 dc45 pm45 an45 cd45 ct45), sl45⟩) (c45 : PySem.W.codeIn K cd45 "_law_no_boxes" = true) (k45 : PySem.W.keepIn K (.ref f45) = true)
    {f46 : Addr} {od46 an46 : Option Addr} {sl46 : Array (Option Value)} {oc46 kV46 dc46 pm46 cd46 ct46 : Value}
    (a46 : PySem.W.nsIn K mainGlobals "_law_pushed" = some (some (.ref f46)))
    (l46 : K.lookup f46 = some ⟨oc46, od46, .func (PySem.W.fnOf "_law_pushed" "_law_pushed" (defArgs s_l_pushed) (defBody s_l_pushed) (defScope s_l_pushed) .none kV46 dc46 pm46 an46 cd46 ct46), sl46⟩) (c46 : PySem.W.codeIn K cd46 "_law_pushed" = true) (k46 : PySem.W.keepIn K (.ref f46) = true)
    {f47 : Addr} {od47 an47 : Option Addr} {sl47 : Array (Option Value)} {oc47 kV47 dc47 pm47 cd47 ct47 : Value}
    (a47 : PySem.W.nsIn K mainGlobals "law" = some (some (.ref f47)))
    (l47 : K.lookup f47 = some ⟨oc47, od47, .func (PySem.W.fnOf "law" "law" (defArgs s_law) (defBody s_law) (defScope s_law) .none kV47 dc47 pm47 an47 cd47 ct47), sl47⟩) (c47 : PySem.W.codeIn K cd47 "law" = true) (k47 : PySem.W.keepIn K (.ref f47) = true)
    (aC_NoBox : PySem.W.nsIn K mainGlobals "NoBox" = some (some (.ref C_NoBox)))
    (aC_NoRoom : PySem.W.nsIn K mainGlobals "NoRoom" = some (some (.ref C_NoRoom)))
    (aC_Room : PySem.W.nsIn K mainGlobals "Room" = some (some (.ref C_Room)))
    (z_abs : PySem.W.nsIn K mainGlobals "abs" = some none)
    (z_bool : PySem.W.nsIn K mainGlobals "bool" = some none)
    (z_int : PySem.W.nsIn K mainGlobals "int" = some none)
    (z_isinstance : PySem.W.nsIn K mainGlobals "isinstance" = some none)
    (z_len : PySem.W.nsIn K mainGlobals "len" = some none)
    (z_list : PySem.W.nsIn K mainGlobals "list" = some none)
    (z_min : PySem.W.nsIn K mainGlobals "min" = some none)
    (z_range : PySem.W.nsIn K mainGlobals "range" = some none)
    (z_str : PySem.W.nsIn K mainGlobals "str" = some none)
    (z_sum : PySem.W.nsIn K mainGlobals "sum" = some none)
    (z_tuple : PySem.W.nsIn K mainGlobals "tuple" = some none)
    (al_pushed_sliding : PySem.W.nsIn K mainGlobals "pushed_sliding" = some (some (.ref f14)))
    {t_MOST_CELLS : Tok} (co_MOST_CELLS : PySem.W.nsIn K mainGlobals "MOST_CELLS" = some (some (.int 400 t_MOST_CELLS)))
    {t_MOST_DOORS : Tok} (co_MOST_DOORS : PySem.W.nsIn K mainGlobals "MOST_DOORS" = some (some (.int 20 t_MOST_DOORS)))
    (pgR : PySem.W.plainGet K C_Room Str.empty = true) (hdR : PySem.W.hasDictIn K C_Room = true) (poR : PySem.W.plainOver K C_Room = true) (saR : PySem.W.findIn K (.ref C_Room) "__setattr__" = some (some (.builtin "object.__setattr__"))) (mkR : PySem.W.makesIn K C_Room = true) (kcR : PySem.W.keepIn K (.ref C_Room) = true) (nRow : PySem.W.findIn K (.ref C_Room) "row" = some none) (nFil : PySem.W.findIn K (.ref C_Room) "filled" = some none)
    (x_NoBox : PySem.W.excIn K C_NoBox [.type "ValueError", .type "Exception", .type "BaseException", .type "object"] "ValueError.__new__" = true) (kx_NoBox : PySem.W.keepIn K (.ref C_NoBox) = true) (sb_NoBox : PySem.W.subIn K (.ref C_NoBox) (.type "BaseException") = some true) (ty_NoBox : PySem.W.typeIn K (.ref C_NoBox) = some (.type "type")) (is_NoBox : PySem.W.isClsIn K C_NoBox = true) (ss_NoBox : PySem.W.subIn K (.ref C_NoBox) (.ref C_NoBox) = some true)
    (x_NoRoom : PySem.W.excIn K C_NoRoom [.type "ValueError", .type "Exception", .type "BaseException", .type "object"] "ValueError.__new__" = true) (kx_NoRoom : PySem.W.keepIn K (.ref C_NoRoom) = true) (sb_NoRoom : PySem.W.subIn K (.ref C_NoRoom) (.type "BaseException") = some true) (ty_NoRoom : PySem.W.typeIn K (.ref C_NoRoom) = some (.type "type")) (is_NoRoom : PySem.W.isClsIn K C_NoRoom = true) (ss_NoRoom : PySem.W.subIn K (.ref C_NoRoom) (.ref C_NoRoom) = some true)
    : ∃ fd : FuncData, (∀ (s : Shared) (v : Value), BindsTo s fd ⟨[v], []⟩ [("_law_script", v)]) ∧ ∀ base : Heap, K.In base → base.Ns mainGlobals mg → FnOk l.prog w K mg base CX0 9 fa fd ["_law_script"] (sp_law K) := by
  have e := hfa.symm.trans (PySem.W.mg_of X G a47)
  cases e
  have F0 := fun_mk (st := s_number_word) l0 c0 k0
  have b0 := F0.binds (ps := ["n"]) fun _ _ _ _ _ _ us hl => match us, hl with | [_], _ => rfl
  have F1 := fun_mk (st := s_link_word) l1 c1 k1
  have b1 := F1.binds (ps := ["place"]) fun _ _ _ _ _ _ us hl => match us, hl with | [_], _ => rfl
  have F2 := fun_mk (st := s_head_word) l2 c2 k2
  have b2 := F2.binds (ps := ["many", "marked"]) fun _ _ _ _ _ _ us hl => match us, hl with | [_, _], _ => rfl
  have F3 := fun_mk (st := s_is_link) l3 c3 k3
  have b3 := F3.binds (ps := ["word"]) fun _ _ _ _ _ _ us hl => match us, hl with | [_], _ => rfl
  have F4 := fun_mk (st := s_told_by) l4 c4 k4
  have b4 := F4.binds (ps := ["word"]) fun _ _ _ _ _ _ us hl => match us, hl with | [_], _ => rfl
  have F5 := fun_mk (st := s_fields_of) l5 c5 k5
  have b5 := F5.binds (ps := ["head"]) fun _ _ _ _ _ _ us hl => match us, hl with | [_], _ => rfl
  have F6 := fun_mk (st := s_is_marked) l6 c6 k6
  have b6 := F6.binds (ps := ["head"]) fun _ _ _ _ _ _ us hl => match us, hl with | [_], _ => rfl
  have F7 := fun_mk (st := s_hung) l7 c7 k7
  have b7 := F7.binds (ps := ["row", "at"]) fun _ _ _ _ _ _ us hl => match us, hl with | [_, _], _ => rfl
  have F8 := fun_mk (st := s_led) l8 c8 k8
  have b8 := F8.binds (ps := ["row", "head", "place"]) fun _ _ _ _ _ _ us hl => match us, hl with | [_, _, _], _ => rfl
  have F9 := fun_mk (st := s_heads) l9 c9 k9
  have b9 := F9.binds (ps := ["row", "used"]) fun _ _ _ _ _ _ us hl => match us, hl with | [_, _], _ => rfl
  have F10 := fun_mk (st := s_marked) l10 c10 k10
  have b10 := F10.binds (ps := ["row", "used"]) fun _ _ _ _ _ _ us hl => match us, hl with | [_, _], _ => rfl
  have F11 := fun_mk (st := s_stays) l11 c11 k11
  have b11 := F11.binds (ps := ["word"]) fun _ _ _ _ _ _ us hl => match us, hl with | [_], _ => rfl
  have F12 := fun_mk (st := s_hung_up) l12 c12 k12
  have b12 := F12.binds (ps := ["row", "used"]) fun _ _ _ _ _ _ us hl => match us, hl with | [_, _], _ => rfl
  have F13 := fun_mk (st := s_slid) l13 c13 k13
  have b13 := F13.binds (ps := ["row", "used"]) fun _ _ _ _ _ _ us hl => match us, hl with | [_, _], _ => rfl
  have F14 := fun_mk (st := s_pushed) l14 c14 k14
  have b14 := F14.binds (ps := ["row", "used"]) fun _ _ _ _ _ _ us hl => match us, hl with | [_, _], _ => rfl
  have F15 := fun_mk (st := s_is_whole) l15 c15 k15
  have b15 := F15.binds (ps := ["value"]) fun _ _ _ _ _ _ us hl => match us, hl with | [_], _ => rfl
  have F16 := fun_mk (st := s_need_thing) l16 c16 k16
  have b16 := F16.binds (ps := ["thing"]) fun _ _ _ _ _ _ us hl => match us, hl with | [_], _ => rfl
  have F17 := fun_mk (st := s_thing_of) l17 c17 k17
  have b17 := F17.binds (ps := ["word"]) fun _ _ _ _ _ _ us hl => match us, hl with | [_], _ => rfl
  have F18 := fun_mk (st := s_Rinit) l18 c18 k18
  have b18 := F18.binds (ps := ["self", "size", "doors"]) fun _ _ _ _ _ _ us hl => match us, hl with | [_, _, _], _ => rfl
  have F19 := fun_mk (st := s_Rneed_box) l19 c19 k19
  have b19 := F19.binds (ps := ["self", "place"]) fun _ _ _ _ _ _ us hl => match us, hl with | [_, _], _ => rfl
  have F20 := fun_mk (st := s_Rword_of) l20 c20 k20
  have b20 := F20.binds (ps := ["self", "thing"]) fun _ _ _ _ _ _ us hl => match us, hl with | [_, _], _ => rfl
  have F21 := fun_mk (st := s_Rmade) l21 c21 k21
  have b21 := F21.binds (ps := ["self", "things"]) fun _ _ _ _ _ _ us hl => match us, hl with | [_, _], _ => rfl
  have F22 := fun_mk (st := s_Rput) l22 c22 k22
  have b22 := F22.binds (ps := ["self", "place", "field", "thing"]) fun _ _ _ _ _ _ us hl => match us, hl with | [_, _, _, _], _ => rfl
  have F23 := fun_mk (st := s_Rtold) l23 c23 k23
  have b23 := F23.binds (ps := ["self", "place"]) fun _ _ _ _ _ _ us hl => match us, hl with | [_, _], _ => rfl
  have F24 := fun_mk (st := s_Rplaces) l24 c24 k24
  have b24 := F24.binds (ps := ["self"]) fun _ _ _ _ _ _ us hl => match us, hl with | [_], _ => rfl
  have F25 := fun_mk (st := s_Rcome_to) l25 c25 k25
  have b25 := F25.binds (ps := ["self"]) fun _ _ _ _ _ _ us hl => match us, hl with | [_], _ => rfl
  have F26 := fun_mk (st := s_Rpushed) l26 c26 k26
  have b26 := F26.binds (ps := ["self"]) fun _ _ _ _ _ _ us hl => match us, hl with | [_], _ => rfl
  have F27 := fun_mk (st := s_Rused) l27 c27 k27
  have b27 := F27.binds (ps := ["self"]) fun _ _ _ _ _ _ us hl => match us, hl with | [_], _ => rfl
  have F28 := fun_mk (st := s_Rcells) l28 c28 k28
  have b28 := F28.binds (ps := ["self"]) fun _ _ _ _ _ _ us hl => match us, hl with | [_], _ => rfl
  have F29 := fun_mk (st := s_l_at) l29 c29 k29
  have b29 := F29.binds (ps := ["_law_script", "_law_place"]) fun _ _ _ _ _ _ us hl => match us, hl with | [_, _], _ => rfl
  have F30 := fun_mk (st := s_l_is_int) l30 c30 k30
  have b30 := F30.binds (ps := ["_law_value"]) fun _ _ _ _ _ _ us hl => match us, hl with | [_], _ => rfl
  have F31 := fun_mk (st := s_l_words_are) l31 c31 k31
  have b31 := F31.binds (ps := ["_law_found", "_law_due"]) fun _ _ _ _ _ _ us hl => match us, hl with | [_, _], _ => rfl
  have F32 := fun_mk (st := s_l_number) l32 c32 k32
  have b32 := F32.binds (ps := ["_law_seed"]) fun _ _ _ _ _ _ us hl => match us, hl with | [_], _ => rfl
  have F33 := fun_mk (st := s_l_places_of) l33 c33 k33
  have b33 := F33.binds (ps := ["_law_order", "_law_fields"]) fun _ _ _ _ _ _ us hl => match us, hl with | [_, _], _ => rfl
  have F34 := fun_mk (st := s_l_cells_of) l34 c34 k34
  have b34 := F34.binds (ps := ["_law_order", "_law_fields", "_law_size"]) fun _ _ _ _ _ _ us hl => match us, hl with | [_, _, _], _ => rfl
  have F35 := fun_mk (st := s_l_thing) l35 c35 k35
  have b35 := F35.binds (ps := ["_law_seed", "_law_order"]) fun _ _ _ _ _ _ us hl => match us, hl with | [_, _], _ => rfl
  have F36 := fun_mk (st := s_l_handed) l36 c36 k36
  have b36 := F36.binds (ps := ["_law_thing_here", "_law_places"]) fun _ _ _ _ _ _ us hl => match us, hl with | [_, _], _ => rfl
  have F37 := fun_mk (st := s_l_come_to) l37 c37 k37
  have b37 := F37.binds (ps := ["_law_order", "_law_fields"]) fun _ _ _ _ _ _ us hl => match us, hl with | [_, _], _ => rfl
  have F38 := fun_mk (st := s_l_many) l38 c38 k38
  have b38 := F38.binds (ps := ["_law_cell", "_law_seed"]) fun _ _ _ _ _ _ us hl => match us, hl with | [_, _], _ => rfl
  have F39 := fun_mk (st := s_l_made) l39 c39 k39
  have b39 := F39.binds (ps := ["_law_room", "_law_state", "_law_cell", "_law_seed"]) fun _ _ _ _ _ _ us hl => match us, hl with | [_, _, _, _], _ => rfl
  have F40 := fun_mk (st := s_l_put) l40 c40 k40
  have b40 := F40.binds (ps := ["_law_room", "_law_state", "_law_seed"]) fun _ _ _ _ _ _ us hl => match us, hl with | [_, _, _], _ => rfl
  have F41 := fun_mk (st := s_l_told) l41 c41 k41
  have b41 := F41.binds (ps := ["_law_room", "_law_state"]) fun _ _ _ _ _ _ us hl => match us, hl with | [_, _], _ => rfl
  have F42 := fun_mk (st := s_l_stands) l42 c42 k42
  have b42 := F42.binds (ps := ["_law_room", "_law_state"]) fun _ _ _ _ _ _ us hl => match us, hl with | [_, _], _ => rfl
  have F43 := fun_mk (st := s_l_begun) l43 c43 k43
  have b43 := F43.binds (ps := ["_law_script"]) fun _ _ _ _ _ _ us hl => match us, hl with | [_], _ => rfl
  have F44 := fun_mk (st := s_l_refused) l44 c44 k44
  have b44 := F44.binds (ps := ["_law_room", "_law_call", "_law_place"]) fun _ _ _ _ _ _ us hl => match us, hl with | [_, _, _], _ => rfl
  have F45 := fun_mk (st := s_l_no_boxes) l45 c45 k45
  have b45 := F45.binds (ps := ["_law_room", "_law_state", "_law_seed", "_law_before"]) fun _ _ _ _ _ _ us hl => match us, hl with | [_, _, _, _], _ => rfl
  have F46 := fun_mk (st := s_l_pushed) l46 c46 k46
  have b46 := F46.binds (ps := ["_law_room", "_law_state"]) fun _ _ _ _ _ _ us hl => match us, hl with | [_, _], _ => rfl
  have F47 := fun_mk (st := s_law) l47 c47 k47
  have b47 := F47.binds (ps := ["_law_script"]) fun _ _ _ _ _ _ us hl => match us, hl with | [_], _ => rfl
  have T : Txt K mg ⟨f0, _, f1, _, f2, _, f3, _, f4, _, f5, _, f6, _, f7, _, f8, _, f9, _, f10, _, f11, _, f12, _, f13, _, f14, _, f15, _, f16, _, f17, _, f18, _, f19, _, f20, _, f21, _, f22, _, f23, _, f24, _, f25, _, f26, _, f27, _, f28, _, f29, _, f30, _, f31, _, f32, _, f33, _, f34, _, f35, _, f36, _, f37, _, f38, _, f39, _, f40, _, f41, _, f42, _, f43, _, f44, _, f45, _, f46, _, fa, _, C_NoBox, C_NoRoom, C_Room⟩ := ⟨F0, b0, PySem.W.mg_of X G a0, F1, b1, PySem.W.mg_of X G a1, F2, b2, PySem.W.mg_of X G a2, F3, b3, PySem.W.mg_of X G a3, F4, b4, PySem.W.mg_of X G a4, F5, b5, PySem.W.mg_of X G a5, F6, b6, PySem.W.mg_of X G a6, F7, b7, PySem.W.mg_of X G a7, F8, b8, PySem.W.mg_of X G a8, F9, b9, PySem.W.mg_of X G a9, F10, b10, PySem.W.mg_of X G a10, F11, b11, PySem.W.mg_of X G a11, F12, b12, PySem.W.mg_of X G a12, F13, b13, PySem.W.mg_of X G a13, F14, b14, PySem.W.mg_of X G a14, F15, b15, PySem.W.mg_of X G a15, F16, b16, PySem.W.mg_of X G a16, F17, b17, PySem.W.mg_of X G a17, F18, b18, F19, b19, ⟨a19, i19, k19⟩, F20, b20, ⟨a20, i20, k20⟩, F21, b21, ⟨a21, i21, k21⟩, F22, b22, ⟨a22, i22, k22⟩, F23, b23, ⟨a23, i23, k23⟩, F24, b24, ⟨a24, i24, k24⟩, F25, b25, ⟨a25, i25, k25⟩, F26, b26, ⟨a26, i26, k26⟩, F27, b27, ⟨a27, i27, k27⟩, F28, b28, ⟨a28, i28, k28⟩, F29, b29, PySem.W.mg_of X G a29, F30, b30, PySem.W.mg_of X G a30, F31, b31, PySem.W.mg_of X G a31, F32, b32, PySem.W.mg_of X G a32, F33, b33, PySem.W.mg_of X G a33, F34, b34, PySem.W.mg_of X G a34, F35, b35, PySem.W.mg_of X G a35, F36, b36, PySem.W.mg_of X G a36, F37, b37, PySem.W.mg_of X G a37, F38, b38, PySem.W.mg_of X G a38, F39, b39, PySem.W.mg_of X G a39, F40, b40, PySem.W.mg_of X G a40, F41, b41, PySem.W.mg_of X G a41, F42, b42, PySem.W.mg_of X G a42, F43, b43, PySem.W.mg_of X G a43, F44, b44, PySem.W.mg_of X G a44, F45, b45, PySem.W.mg_of X G a45, F46, b46, PySem.W.mg_of X G a46, F47, b47, PySem.W.mg_of X G a47, PySem.W.mg_none_of X G z_abs, PySem.W.mg_none_of X G z_bool, PySem.W.mg_none_of X G z_int, PySem.W.mg_none_of X G z_isinstance, PySem.W.mg_none_of X G z_len, PySem.W.mg_none_of X G z_list, PySem.W.mg_none_of X G z_min, PySem.W.mg_none_of X G z_range, PySem.W.mg_none_of X G z_str, PySem.W.mg_none_of X G z_sum, PySem.W.mg_none_of X G z_tuple, PySem.W.mg_of X G al_pushed_sliding, ⟨_, PySem.W.mg_of X G co_MOST_CELLS⟩, ⟨_, PySem.W.mg_of X G co_MOST_DOORS⟩, PySem.W.mg_of X G aC_Room, ⟨pgR, hdR, poR, saR⟩, nRow, nFil, ⟨mkR, a18, i18, kcR⟩, PySem.W.mg_of X G aC_NoBox, x_NoBox, kx_NoBox, sb_NoBox, ty_NoBox, exm_own sb_NoBox is_NoBox ty_NoBox ss_NoBox, PySem.W.mg_of X G aC_NoRoom, x_NoRoom, kx_NoRoom, sb_NoRoom, ty_NoRoom, exm_own sb_NoRoom is_NoRoom ty_NoRoom ss_NoRoom⟩
  exact ⟨_, fun s v => .of_eq rfl, fun base _ _ => ok_law T⟩
end Mine
open PySem PySem.W PyProof.Rows
set_option maxRecDepth 100000 in
set_option maxHeartbeats 0 in
theorem PySem.Challenge.cw_threadslide_k08_whole_rooms_holds : PySem.Challenge.rw_threadslide_k08_whole_rooms.Holds := by
  w_on; o_law; k_head; (case hw => w_witness2)
  k_fill
  refine L2.walk_ofB (l := PySem.Challenge.rw_threadslide_k08_whole_rooms) (n := 63) (k := 9) (x := "_law_script") (CX := fun _ => L2.CX0) (sp := fun w => Mine.sp_law _) rfl (by decide) rfl ⟨rfl, by decide, by decide⟩ (fun w h Y => PySem.W.kIn_of Y) ?F (fun _ _ a ns hl hb _ hS => ⟨a, ns, rfl, hS, hl, hb, fun _ => rfl⟩) (fun _ _ _ _ _ h => h)
  case F =>
    intro w mg fa h KX G hmg
    refine' Mine.all_mk KX G hmg ?a0 ?l0 ?c0 ?k0 ?a1 ?l1 ?c1 ?k1 ?a2 ?l2 ?c2 ?k2 ?a3 ?l3 ?c3 ?k3 ?a4 ?l4 ?c4 ?k4 ?a5 ?l5 ?c5 ?k5 ?a6 ?l6 ?c6 ?k6 ?a7 ?l7 ?c7 ?k7 ?a8 ?l8 ?c8 ?k8 ?a9 ?l9 ?c9 ?k9 ?a10 ?l10 ?c10 ?k10 ?a11 ?l11 ?c11 ?k11 ?a12 ?l12 ?c12 ?k12 ?a13 ?l13 ?c13 ?k13 ?a14 ?l14 ?c14 ?k14 ?a15 ?l15 ?c15 ?k15 ?a16 ?l16 ?c16 ?k16 ?a17 ?l17 ?c17 ?k17 ?a18 ?i18 ?l18 ?c18 ?k18 ?a19 ?i19 ?l19 ?c19 ?k19 ?a20 ?i20 ?l20 ?c20 ?k20 ?a21 ?i21 ?l21 ?c21 ?k21 ?a22 ?i22 ?l22 ?c22 ?k22 ?a23 ?i23 ?l23 ?c23 ?k23 ?a24 ?i24 ?l24 ?c24 ?k24 ?a25 ?i25 ?l25 ?c25 ?k25 ?a26 ?i26 ?l26 ?c26 ?k26 ?a27 ?i27 ?l27 ?c27 ?k27 ?a28 ?i28 ?l28 ?c28 ?k28 ?a29 ?l29 ?c29 ?k29 ?a30 ?l30 ?c30 ?k30 ?a31 ?l31 ?c31 ?k31 ?a32 ?l32 ?c32 ?k32 ?a33 ?l33 ?c33 ?k33 ?a34 ?l34 ?c34 ?k34 ?a35 ?l35 ?c35 ?k35 ?a36 ?l36 ?c36 ?k36 ?a37 ?l37 ?c37 ?k37 ?a38 ?l38 ?c38 ?k38 ?a39 ?l39 ?c39 ?k39 ?a40 ?l40 ?c40 ?k40 ?a41 ?l41 ?c41 ?k41 ?a42 ?l42 ?c42 ?k42 ?a43 ?l43 ?c43 ?k43 ?a44 ?l44 ?c44 ?k44 ?a45 ?l45 ?c45 ?k45 ?a46 ?l46 ?c46 ?k46 ?a47 ?l47 ?c47 ?k47 ?aC_NoBox ?aC_NoRoom ?aC_Room ?z_abs ?z_bool ?z_int ?z_isinstance ?z_len ?z_list ?z_min ?z_range ?z_str ?z_sum ?z_tuple ?al_pushed_sliding ?co_MOST_CELLS ?co_MOST_DOORS ?pgR ?hdR ?poR ?saR ?mkR ?kcR ?nRow ?nFil ?x_NoBox ?kx_NoBox ?sb_NoBox ?ty_NoBox ?is_NoBox ?ss_NoBox ?x_NoRoom ?kx_NoRoom ?sb_NoRoom ?ty_NoRoom ?is_NoRoom ?ss_NoRoom
    (case aC_NoBox => k_is)
    (case aC_NoRoom => k_is)
    (case aC_Room => k_is)
    (case a0 => k_is)
    (case l0 => k_is)
    (case c0 => k_is)
    (case k0 => k_is)
    (case a1 => k_is)
    (case l1 => k_is)
    (case c1 => k_is)
    (case k1 => k_is)
    (case a2 => k_is)
    (case l2 => k_is)
    (case c2 => k_is)
    (case k2 => k_is)
    (case a3 => k_is)
    (case l3 => k_is)
    (case c3 => k_is)
    (case k3 => k_is)
    (case a4 => k_is)
    (case l4 => k_is)
    (case c4 => k_is)
    (case k4 => k_is)
    (case a5 => k_is)
    (case l5 => k_is)
    (case c5 => k_is)
    (case k5 => k_is)
    (case a6 => k_is)
    (case l6 => k_is)
    (case c6 => k_is)
    (case k6 => k_is)
    (case a7 => k_is)
    (case l7 => k_is)
    (case c7 => k_is)
    (case k7 => k_is)
    (case a8 => k_is)
    (case l8 => k_is)
    (case c8 => k_is)
    (case k8 => k_is)
    (case a9 => k_is)
    (case l9 => k_is)
    (case c9 => k_is)
    (case k9 => k_is)
    (case a10 => k_is)
    (case l10 => k_is)
    (case c10 => k_is)
    (case k10 => k_is)
    (case a11 => k_is)
    (case l11 => k_is)
    (case c11 => k_is)
    (case k11 => k_is)
    (case a12 => k_is)
    (case l12 => k_is)
    (case c12 => k_is)
    (case k12 => k_is)
    (case a13 => k_is)
    (case l13 => k_is)
    (case c13 => k_is)
    (case k13 => k_is)
    (case a14 => k_is)
    (case l14 => k_is)
    (case c14 => k_is)
    (case k14 => k_is)
    (case a15 => k_is)
    (case l15 => k_is)
    (case c15 => k_is)
    (case k15 => k_is)
    (case a16 => k_is)
    (case l16 => k_is)
    (case c16 => k_is)
    (case k16 => k_is)
    (case a17 => k_is)
    (case l17 => k_is)
    (case c17 => k_is)
    (case k17 => k_is)
    (case a18 => k_is)
    (case i18 => k_is)
    (case l18 => k_is)
    (case c18 => k_is)
    (case k18 => k_is)
    (case a19 => k_is)
    (case i19 => k_is)
    (case l19 => k_is)
    (case c19 => k_is)
    (case k19 => k_is)
    (case a20 => k_is)
    (case i20 => k_is)
    (case l20 => k_is)
    (case c20 => k_is)
    (case k20 => k_is)
    (case a21 => k_is)
    (case i21 => k_is)
    (case l21 => k_is)
    (case c21 => k_is)
    (case k21 => k_is)
    (case a22 => k_is)
    (case i22 => k_is)
    (case l22 => k_is)
    (case c22 => k_is)
    (case k22 => k_is)
    (case a23 => k_is)
    (case i23 => k_is)
    (case l23 => k_is)
    (case c23 => k_is)
    (case k23 => k_is)
    (case a24 => k_is)
    (case i24 => k_is)
    (case l24 => k_is)
    (case c24 => k_is)
    (case k24 => k_is)
    (case a25 => k_is)
    (case i25 => k_is)
    (case l25 => k_is)
    (case c25 => k_is)
    (case k25 => k_is)
    (case a26 => k_is)
    (case i26 => k_is)
    (case l26 => k_is)
    (case c26 => k_is)
    (case k26 => k_is)
    (case a27 => k_is)
    (case i27 => k_is)
    (case l27 => k_is)
    (case c27 => k_is)
    (case k27 => k_is)
    (case a28 => k_is)
    (case i28 => k_is)
    (case l28 => k_is)
    (case c28 => k_is)
    (case k28 => k_is)
    (case a29 => k_is)
    (case l29 => k_is)
    (case c29 => k_is)
    (case k29 => k_is)
    (case a30 => k_is)
    (case l30 => k_is)
    (case c30 => k_is)
    (case k30 => k_is)
    (case a31 => k_is)
    (case l31 => k_is)
    (case c31 => k_is)
    (case k31 => k_is)
    (case a32 => k_is)
    (case l32 => k_is)
    (case c32 => k_is)
    (case k32 => k_is)
    (case a33 => k_is)
    (case l33 => k_is)
    (case c33 => k_is)
    (case k33 => k_is)
    (case a34 => k_is)
    (case l34 => k_is)
    (case c34 => k_is)
    (case k34 => k_is)
    (case a35 => k_is)
    (case l35 => k_is)
    (case c35 => k_is)
    (case k35 => k_is)
    (case a36 => k_is)
    (case l36 => k_is)
    (case c36 => k_is)
    (case k36 => k_is)
    (case a37 => k_is)
    (case l37 => k_is)
    (case c37 => k_is)
    (case k37 => k_is)
    (case a38 => k_is)
    (case l38 => k_is)
    (case c38 => k_is)
    (case k38 => k_is)
    (case a39 => k_is)
    (case l39 => k_is)
    (case c39 => k_is)
    (case k39 => k_is)
    (case a40 => k_is)
    (case l40 => k_is)
    (case c40 => k_is)
    (case k40 => k_is)
    (case a41 => k_is)
    (case l41 => k_is)
    (case c41 => k_is)
    (case k41 => k_is)
    (case a42 => k_is)
    (case l42 => k_is)
    (case c42 => k_is)
    (case k42 => k_is)
    (case a43 => k_is)
    (case l43 => k_is)
    (case c43 => k_is)
    (case k43 => k_is)
    (case a44 => k_is)
    (case l44 => k_is)
    (case c44 => k_is)
    (case k44 => k_is)
    (case a45 => k_is)
    (case l45 => k_is)
    (case c45 => k_is)
    (case k45 => k_is)
    (case a46 => k_is)
    (case l46 => k_is)
    (case c46 => k_is)
    (case k46 => k_is)
    (case a47 => k_is)
    (case l47 => k_is)
    (case c47 => k_is)
    (case k47 => k_is)
    (case z_abs => k_is)
    (case z_bool => k_is)
    (case z_int => k_is)
    (case z_isinstance => k_is)
    (case z_len => k_is)
    (case z_list => k_is)
    (case z_min => k_is)
    (case z_range => k_is)
    (case z_str => k_is)
    (case z_sum => k_is)
    (case z_tuple => k_is)
    (case al_pushed_sliding => k_is)
    (case co_MOST_CELLS => k_is)
    (case co_MOST_DOORS => k_is)
    (case pgR => k_is)
    (case hdR => k_is)
    (case poR => k_is)
    (case saR => k_is)
    (case mkR => k_is)
    (case kcR => k_is)
    (case nRow => k_is)
    (case nFil => k_is)
    (case x_NoBox => k_exc)
    (case kx_NoBox => k_is)
    (case sb_NoBox => k_is)
    (case ty_NoBox => k_is)
    (case is_NoBox => k_is)
    (case ss_NoBox => first | rfl | k_is)
    (case x_NoRoom => k_exc)
    (case kx_NoRoom => k_is)
    (case sb_NoRoom => k_is)
    (case ty_NoRoom => k_is)
    (case is_NoRoom => k_is)
    (case ss_NoRoom => first | rfl | k_is)
