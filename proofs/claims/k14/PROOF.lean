import PyProof.Rows.All
import Wide.All
import OpenK.AllK
import Wide.FinOn
import PyProof.EqAt
import PyProof.EqKinds
import PyProof.TupleCall
import PyProof.ListRange
import PyProof.CollectIter
import PyProof.FactsAll.range_iterator_1
import HandS.Base
import HandS.Call
import HandS.Iter
import HandS.Conv
import HandS.RevRange
import KE.GoesZip
import KE.GoesMore
import KE.GoesEnum
import HandS.List
import PyProof.DictRoadsH
import KE.KEqDict
import HandS.Dict
import HandS.More
import HandS.Comp
import KE.KStateDown
import HandS.Head0
import HandS.Head1
import HandS.Head2
import HandS.HeadEnd
import HandS.HeadHook1
import HandS.HeadHook2
import HandS.ForMost
import HandS.Defaults
import HandS.WideBits
import HandS.Style
import HandS.DeepEq
import HandS.Rev
import HandS.Ends
import HandS.Words
import PySem.Challenge.RW_packetpicture_k14_whole_bits_belong_to_o
set_option Elab.async false
set_option linter.all false
set_option maxRecDepth 100000
set_option maxHeartbeats 0
namespace PP
theorem sum_rep (n a : Nat) : (List.replicate n a).sum = n * a := by
  induction n with
  | zero => simp
  | succ n ih => rw [List.replicate_succ, List.sum_cons, ih, Nat.add_mul, Nat.one_mul, Nat.add_comm]
/-! ## 1. Frames, tiles, pixels -/
structure Fr where
  w : Nat
  h : Nat
  d : Nat
  c : Nat
  t : Nat
structure Fr.Ok (F : Fr) : Prop where
  w1 : 1 ≤ F.w
  w2 : F.w ≤ 16
  h1 : 1 ≤ F.h
  h2 : F.h ≤ 16
  d1 : 1 ≤ F.d
  d2 : F.d ≤ 8
  c1 : F.c = 1 ∨ F.c = 3
  t1 : 1 ≤ F.t
  t2 : F.t ≤ 16
def Fr.ac (F : Fr) : Nat := (F.w + F.t - 1) / F.t
def Fr.dn (F : Fr) : Nat := (F.h + F.t - 1) / F.t
def Fr.nt (F : Fr) : Nat := F.ac * F.dn
def Fr.np (F : Fr) : Nat := F.w * F.h
def Fr.lf (F : Fr) (i : Nat) : Nat := i % F.ac * F.t
def Fr.tp (F : Fr) (i : Nat) : Nat := i / F.ac * F.t
def Fr.tw (F : Fr) (i : Nat) : Nat := min F.t (F.w - F.lf i)
def Fr.th (F : Fr) (i : Nat) : Nat := min F.t (F.h - F.tp i)
def Fr.rowPix (F : Fr) (i y : Nat) : List Nat := (List.range (F.tw i)).map fun x => (F.tp i + y) * F.w + F.lf i + x
def Fr.pix (F : Fr) (i : Nat) : List Nat := (List.range (F.th i)).flatMap (F.rowPix i)
theorem up_eq {w t : Nat} (h1 : 1 ≤ w) (h2 : 1 ≤ t) : (w + t - 1) / t = (w - 1) / t + 1 := by
  have e : w + t - 1 = (w - 1) + t := by omega
  rw [e, Nat.add_div_right _ h2]
section
variable {F : Fr} (O : F.Ok)
include O
theorem Fr.Ok.ac_eq : F.ac = (F.w - 1) / F.t + 1 := up_eq O.w1 O.t1
theorem Fr.Ok.dn_eq : F.dn = (F.h - 1) / F.t + 1 := up_eq O.h1 O.t1
theorem Fr.Ok.ac1 : 1 ≤ F.ac := by rw [O.ac_eq]; exact Nat.le_add_left _ _
theorem Fr.Ok.dn1 : 1 ≤ F.dn := by rw [O.dn_eq]; exact Nat.le_add_left _ _
theorem Fr.Ok.ac2 : F.ac ≤ 16 := by
  rw [O.ac_eq]
  have a := Nat.div_le_self (F.w - 1) F.t
  have b := O.w2
  have c := O.w1
  omega
theorem Fr.Ok.dn2 : F.dn ≤ 16 := by
  rw [O.dn_eq]
  have a := Nat.div_le_self (F.h - 1) F.t
  have b := O.h2
  have c := O.h1
  omega
theorem Fr.Ok.nt2 : F.nt ≤ 256 := Nat.mul_le_mul O.ac2 O.dn2
theorem Fr.Ok.np2 : F.np ≤ 256 := Nat.mul_le_mul O.w2 O.h2
theorem Fr.Ok.np1 : 1 ≤ F.np := Nat.mul_le_mul O.w1 O.h1
theorem Fr.Ok.lf_lt (i : Nat) : F.lf i < F.w := by
  have a : i % F.ac < F.ac := Nat.mod_lt _ O.ac1
  rw [O.ac_eq] at a
  have b : i % F.ac ≤ (F.w - 1) / F.t := by rw [O.ac_eq]; omega
  have c : F.lf i ≤ (F.w - 1) / F.t * F.t := Nat.mul_le_mul_right _ b
  have d := Nat.div_mul_le_self (F.w - 1) F.t
  have e := O.w1
  omega
theorem Fr.Ok.tp_lt {i : Nat} (hi : i < F.nt) : F.tp i < F.h := by
  have a : i / F.ac < F.dn := Nat.div_lt_of_lt_mul hi
  have b : i / F.ac ≤ (F.h - 1) / F.t := by rw [O.dn_eq] at a; omega
  have c : F.tp i ≤ (F.h - 1) / F.t * F.t := Nat.mul_le_mul_right _ b
  have d := Nat.div_mul_le_self (F.h - 1) F.t
  have e := O.h1
  omega
end
theorem mem_rowPix {F : Fr} {i y p : Nat} : p ∈ F.rowPix i y ↔ ∃ x, x < F.tw i ∧ p = (F.tp i + y) * F.w + F.lf i + x := by
  unfold Fr.rowPix
  simp only [List.mem_map, List.mem_range]
  exact ⟨fun ⟨x, h, e⟩ => ⟨x, h, e.symm⟩, fun ⟨x, h, e⟩ => ⟨x, h, e.symm⟩⟩
theorem mem_pix {F : Fr} {i p : Nat} : p ∈ F.pix i ↔ ∃ y, y < F.th i ∧ ∃ x, x < F.tw i ∧ p = (F.tp i + y) * F.w + F.lf i + x := by
  unfold Fr.pix
  simp only [List.mem_flatMap, List.mem_range, mem_rowPix]
theorem pos_div {w q x : Nat} (hx : x < w) : (q * w + x) / w = q := by
  rw [Nat.mul_comm, Nat.mul_add_div (by omega), Nat.div_eq_of_lt hx]; omega
theorem pos_mod {w q x : Nat} (hx : x < w) : (q * w + x) % w = x := by
  rw [Nat.mul_comm, Nat.mul_add_mod, Nat.mod_eq_of_lt hx]
/-- the tile of a pixel -/
def Fr.loc (F : Fr) (p : Nat) : Nat := p / F.w / F.t * F.ac + p % F.w / F.t
section
variable {F : Fr} (O : F.Ok)
include O
theorem Fr.Ok.mem_loc {i p : Nat} (hp : p ∈ F.pix i) : F.loc p = i := by
  obtain ⟨y, hy, x, hx, rfl⟩ := mem_pix.mp hp
  have hx1 : x < F.t := Nat.lt_of_lt_of_le hx (Nat.min_le_left _ _)
  have hx2 : x < F.w - F.lf i := Nat.lt_of_lt_of_le hx (Nat.min_le_right _ _)
  have hy1 : y < F.t := Nat.lt_of_lt_of_le hy (Nat.min_le_left _ _)
  have l : F.lf i + x < F.w := by omega
  unfold Fr.loc
  rw [Nat.add_assoc, pos_div l, pos_mod l]
  unfold Fr.tp Fr.lf
  rw [pos_div hy1, pos_div hx1, Nat.mul_comm]
  exact Nat.div_add_mod i F.ac
theorem Fr.Ok.mem_lt {i p : Nat} (hi : i < F.nt) (hp : p ∈ F.pix i) : p < F.np := by
  obtain ⟨y, hy, x, hx, rfl⟩ := mem_pix.mp hp
  have hx2 : x < F.w - F.lf i := Nat.lt_of_lt_of_le hx (Nat.min_le_right _ _)
  have hy2 : y < F.h - F.tp i := Nat.lt_of_lt_of_le hy (Nat.min_le_right _ _)
  have l : F.lf i + x < F.w := by omega
  have k : F.tp i + y + 1 ≤ F.h := by omega
  have m : (F.tp i + y + 1) * F.w ≤ F.h * F.w := Nat.mul_le_mul_right _ k
  rw [Nat.add_mul, Nat.one_mul] at m
  unfold Fr.np
  rw [Nat.mul_comm F.w F.h]
  omega
theorem Fr.Ok.loc_lt {p : Nat} (hp : p < F.np) : F.loc p < F.nt := by
  have hw := O.w1
  have y : p / F.w < F.h := Nat.div_lt_of_lt_mul hp
  have x : p % F.w < F.w := Nat.mod_lt _ hw
  have y2 : p / F.w / F.t < F.dn := by
    rw [O.dn_eq]
    have := Nat.div_le_div_right (c := F.t) (show p / F.w ≤ F.h - 1 by omega)
    omega
  have x2 : p % F.w / F.t < F.ac := by
    rw [O.ac_eq]
    have := Nat.div_le_div_right (c := F.t) (show p % F.w ≤ F.w - 1 by omega)
    omega
  have m : (p / F.w / F.t + 1) * F.ac ≤ F.dn * F.ac := Nat.mul_le_mul_right _ y2
  rw [Nat.add_mul, Nat.one_mul] at m
  unfold Fr.loc Fr.nt
  rw [Nat.mul_comm F.ac F.dn]
  omega
theorem Fr.Ok.mem_of {p : Nat} (hp : p < F.np) : p ∈ F.pix (F.loc p) := by
  have hw := O.w1
  have ht := O.t1
  have y : p / F.w < F.h := Nat.div_lt_of_lt_mul hp
  have x : p % F.w < F.w := Nat.mod_lt _ hw
  have x2 : p % F.w / F.t < F.ac := by
    rw [O.ac_eq]
    have := Nat.div_le_div_right (c := F.t) (show p % F.w ≤ F.w - 1 by omega)
    omega
  have el : F.lf (F.loc p) = p % F.w / F.t * F.t := by unfold Fr.lf Fr.loc; rw [pos_mod x2]
  have et : F.tp (F.loc p) = p / F.w / F.t * F.t := by unfold Fr.tp Fr.loc; rw [pos_div x2]
  have dx : p % F.w / F.t * F.t + p % F.w % F.t = p % F.w := by rw [Nat.mul_comm]; exact Nat.div_add_mod _ _
  have dy : p / F.w / F.t * F.t + p / F.w % F.t = p / F.w := by rw [Nat.mul_comm]; exact Nat.div_add_mod _ _
  have mx : p % F.w % F.t < F.t := Nat.mod_lt _ ht
  have my : p / F.w % F.t < F.t := Nat.mod_lt _ ht
  refine mem_pix.mpr ⟨p / F.w % F.t, ?_, p % F.w % F.t, ?_, ?_⟩
  · unfold Fr.th; rw [et]; exact Nat.lt_min.mpr ⟨my, by omega⟩
  · unfold Fr.tw; rw [el]; exact Nat.lt_min.mpr ⟨mx, by omega⟩
  · rw [et, el, dy, Nat.add_assoc, dx, Nat.mul_comm]; exact (Nat.div_add_mod _ _).symm
theorem Fr.Ok.pix_nodup (i : Nat) : (F.pix i).Nodup := by
  have key : (F.pix i).Pairwise (· < ·) := by
    unfold Fr.pix
    refine List.pairwise_flatMap.mpr ⟨fun y _ => ?_, ?_⟩
    · unfold Fr.rowPix
      refine List.pairwise_map.mpr (List.pairwise_lt_range.imp fun {a b} h => by omega)
    · refine List.pairwise_lt_range.imp fun {a b} h p hp q hq => ?_
      obtain ⟨x, hx, rfl⟩ := mem_rowPix.mp hp
      obtain ⟨z, hz, rfl⟩ := mem_rowPix.mp hq
      have hx2 : x < F.w - F.lf i := Nat.lt_of_lt_of_le hx (Nat.min_le_right _ _)
      have m : (F.tp i + a + 1) * F.w ≤ (F.tp i + b) * F.w := Nat.mul_le_mul_right _ (by omega)
      rw [Nat.add_mul, Nat.one_mul] at m
      omega
  exact key.imp fun h => Nat.ne_of_lt h
end
theorem length_pix (F : Fr) (i : Nat) : (F.pix i).length = F.th i * F.tw i := by
  unfold Fr.pix
  rw [List.length_flatMap]
  have e : ((List.range (F.th i)).map fun a => (F.rowPix i a).length) = List.replicate (F.th i) (F.tw i) := by
    rw [List.eq_replicate_iff]
    refine ⟨by simp, fun b hb => ?_⟩
    obtain ⟨a, _, rfl⟩ := List.mem_map.mp hb
    simp [Fr.rowPix]
  rw [e, sum_rep]
theorem Fr.Ok.pix_len {F : Fr} (O : F.Ok) (i : Nat) : (F.pix i).length ≤ 256 := by
  rw [length_pix]
  have a : F.th i ≤ 16 := Nat.le_trans (Nat.min_le_left _ _) O.t2
  have b : F.tw i ≤ 16 := Nat.le_trans (Nat.min_le_left _ _) O.t2
  exact Nat.mul_le_mul a b

/-! ## 2. Keys -/
structure Ky where
  ch : Nat
  tl : Nat
  pl : Nat
  deriving DecidableEq
def Fr.keyOk (F : Fr) (k : Ky) : Prop := k.ch < F.c ∧ k.tl < F.nt ∧ k.pl < F.d
def Fr.keysCh (F : Fr) (p ch : Nat) : List Ky := (List.range F.nt).map fun t => ⟨ch, t, p⟩
def Fr.keysPl (F : Fr) (p : Nat) : List Ky := (List.range F.c).flatMap (F.keysCh p)
/-- all keys, in their order -/
def Fr.keys (F : Fr) : List Ky := (List.range F.d).flatMap fun i => F.keysPl (F.d - 1 - i)
theorem mem_keysPl {F : Fr} {p : Nat} {k : Ky} : k ∈ F.keysPl p ↔ k.pl = p ∧ k.ch < F.c ∧ k.tl < F.nt := by
  unfold Fr.keysPl Fr.keysCh
  simp only [List.mem_flatMap, List.mem_map, List.mem_range]
  constructor
  · rintro ⟨a, ha, b, hb, rfl⟩
    exact ⟨rfl, ha, hb⟩
  · rintro ⟨rfl, h1, h2⟩
    exact ⟨k.ch, h1, k.tl, h2, rfl⟩
theorem mem_keys {F : Fr} {k : Ky} : k ∈ F.keys ↔ F.keyOk k := by
  unfold Fr.keys Fr.keyOk
  simp only [List.mem_flatMap, List.mem_range, mem_keysPl]
  constructor
  · rintro ⟨i, hi, e, h1, h2⟩
    exact ⟨h1, h2, by omega⟩
  · rintro ⟨h1, h2, h3⟩
    exact ⟨F.d - 1 - k.pl, by omega, by omega, h1, h2⟩
theorem keys_nodup (F : Fr) : F.keys.Nodup := by
  unfold Fr.keys
  refine List.pairwise_flatMap.mpr ⟨fun i _ => ?_, ?_⟩
  · unfold Fr.keysPl
    refine List.pairwise_flatMap.mpr ⟨fun c _ => ?_, ?_⟩
    · unfold Fr.keysCh
      refine List.pairwise_map.mpr (List.pairwise_lt_range.imp fun {a b} h e => ?_)
      have := congrArg Ky.tl e
      simp only at this
      omega
    · refine List.pairwise_lt_range.imp fun {a b} h x hx y hy e => ?_
      unfold Fr.keysCh at hx hy
      obtain ⟨_, _, rfl⟩ := List.mem_map.mp hx
      obtain ⟨_, _, rfl⟩ := List.mem_map.mp hy
      have := congrArg Ky.ch e
      simp only at this
      omega
  · have key : (List.range F.d).Pairwise fun a b => a < b ∧ b < F.d := by
      rw [List.pairwise_iff_getElem]
      intro i j hi hj hij
      simp at hi hj
      simp
      omega
    refine key.imp fun {a b} h x hx y hy e => ?_
    have h1 := (mem_keysPl.mp hx).1
    have h2 := (mem_keysPl.mp hy).1
    rw [e] at h1
    omega
theorem keys_len {F : Fr} (O : F.Ok) : F.keys.length ≤ 6144 := by
  unfold Fr.keys
  rw [List.length_flatMap]
  have e1 : ∀ p, (F.keysPl p).length = F.c * F.nt := fun p => by
    unfold Fr.keysPl
    rw [List.length_flatMap]
    have e : ((List.range F.c).map fun a => (F.keysCh p a).length) = List.replicate F.c F.nt := by
      rw [List.eq_replicate_iff]
      refine ⟨by simp, fun b hb => ?_⟩
      obtain ⟨a, _, rfl⟩ := List.mem_map.mp hb
      simp [Fr.keysCh]
    rw [e, sum_rep]
  have e : ((List.range F.d).map fun i => (F.keysPl (F.d - 1 - i)).length) = List.replicate F.d (F.c * F.nt) := by
    rw [List.eq_replicate_iff]
    refine ⟨by simp, fun b hb => ?_⟩
    obtain ⟨a, _, rfl⟩ := List.mem_map.mp hb
    exact e1 _
  rw [e, sum_rep]
  have hc : F.c ≤ 3 := by rcases O.c1 with h | h <;> omega
  have m : F.c * F.nt ≤ 3 * 256 := Nat.mul_le_mul hc O.nt2
  have m2 : F.d * (F.c * F.nt) ≤ 8 * (3 * 256) := Nat.mul_le_mul O.d2 m
  show F.d * (F.c * F.nt) ≤ 6144
  omega

/-! ## 3. The table of stored bits -/
/-- a packet sets the bit of pixel p -/
def setsAt (zs : List (Nat × Bool)) (p : Nat) : Bool := zs.any fun q => q.1 == p && q.2
/-- the packets ks (with bits P) set the bit of pixel p in channel ch, plane pl -/
def marks (F : Fr) (P : Ky → List Bool) (ks : List Ky) (ch pl p : Nat) : Bool :=
  ks.any fun k => (k.ch == ch && k.pl == pl) && setsAt ((F.pix k.tl).zip (P k)) p
theorem setsAt_one {l : List Nat} {bs : List Bool} (hn : l.Nodup) {i p : Nat} {b : Bool} (hp : l[i]? = some p) (hb : bs[i]? = some b) : setsAt (l.zip bs) p = b := by
  unfold setsAt
  cases b with
  | true =>
    rw [List.any_eq_true]
    refine ⟨(p, true), ?_, by simp⟩
    refine List.mem_iff_getElem?.mpr ⟨i, ?_⟩
    rw [List.getElem?_zip_eq_some]
    exact ⟨hp, hb⟩
  | false =>
    rw [List.any_eq_false]
    rintro ⟨q, c⟩ hq
    obtain ⟨j, hj⟩ := List.mem_iff_getElem?.mp hq
    rw [List.getElem?_zip_eq_some] at hj
    obtain ⟨h1, h2⟩ := hj
    by_cases e : q = p
    · subst e
      have eij : i = j := by
        obtain ⟨a1, a2⟩ := List.getElem?_eq_some_iff.mp hp
        obtain ⟨b1, b2⟩ := List.getElem?_eq_some_iff.mp h1
        exact (List.getElem_inj hn).mp (a2.trans b2.symm)
      subst eij
      simp only [] at h2
      rw [hb] at h2
      cases h2
      simp
    · simp [e]
theorem setsAt_none {l : List Nat} {bs : List Bool} {p : Nat} (hp : p ∉ l) : setsAt (l.zip bs) p = false := by
  unfold setsAt
  rw [List.any_eq_false]
  rintro ⟨q, c⟩ hq
  have : q ∈ l := (List.of_mem_zip hq).1
  have e : q ≠ p := fun e => hp (e ▸ this)
  simp [e]
theorem marks_key {F : Fr} (O : F.Ok) {P : Ky → List Bool} {k : Ky} (hk : F.keyOk k) {i p : Nat} {b : Bool} (hp : (F.pix k.tl)[i]? = some p) (hb : (P k)[i]? = some b) : marks F P F.keys k.ch k.pl p = b := by
  have hm : p ∈ F.pix k.tl := List.mem_iff_getElem?.mpr ⟨i, hp⟩
  unfold marks
  cases b with
  | true =>
    rw [List.any_eq_true]
    refine ⟨k, mem_keys.mpr hk, ?_⟩
    rw [setsAt_one (O.pix_nodup _) hp hb]
    simp
  | false =>
    rw [List.any_eq_false]
    intro k' hk'
    by_cases e : k'.ch = k.ch ∧ k'.pl = k.pl
    · by_cases et : k'.tl = k.tl
      · have ek : k' = k := by
          cases k; cases k'; simp only at e et; obtain ⟨rfl, rfl⟩ := e; subst et; rfl
        subst ek
        rw [setsAt_one (O.pix_nodup _) hp hb]
        simp
      · have no : p ∉ F.pix k'.tl := fun h => et (by rw [← O.mem_loc h, O.mem_loc hm])
        rw [setsAt_none no]
        simp
    · have : (k'.ch == k.ch && k'.pl == k.pl) = false := by
        cases q : (k'.ch == k.ch && k'.pl == k.pl) with
        | false => rfl
        | true =>
          simp only [Bool.and_eq_true, beq_iff_eq] at q
          exact absurd q e
      rw [this]
      simp
/-- the packet bits read off the table are the packet's -/
theorem marks_bits {F : Fr} (O : F.Ok) {P : Ky → List Bool} {k : Ky} (hk : F.keyOk k) (hl : (P k).length = (F.pix k.tl).length) : (F.pix k.tl).map (marks F P F.keys k.ch k.pl) = P k := by
  refine List.ext_getElem (by simp [hl]) fun i h1 h2 => ?_
  rw [List.getElem_map]
  have h3 : i < (F.pix k.tl).length := by simpa using h1
  exact marks_key O hk (List.getElem?_eq_getElem h3) (List.getElem?_eq_getElem h2)
/-- every pixel's bit is that of its tile's packet -/
theorem marks_pixel {F : Fr} (O : F.Ok) {S : Nat → Nat → Nat → Bool} {P : Ky → List Bool} (hP : ∀ k, F.keyOk k → P k = (F.pix k.tl).map (S k.ch k.pl)) {ch pl p : Nat} (hc : ch < F.c) (hl : pl < F.d) (hp : p < F.np) : marks F P F.keys ch pl p = S ch pl p := by
  have hk : F.keyOk ⟨ch, F.loc p, pl⟩ := ⟨hc, O.loc_lt hp, hl⟩
  obtain ⟨i, hi⟩ := List.mem_iff_getElem?.mp (O.mem_of hp)
  refine marks_key O (k := ⟨ch, F.loc p, pl⟩) hk hi ?_
  rw [hP _ hk]
  show ((F.pix (F.loc p)).map (S ch pl))[i]? = _
  rw [List.getElem?_map, hi]
  rfl

/-! ## 4. Gray bits -/
def grayB (v p : Nat) : Bool := (v / 2 ^ p % 2 != v / 2 ^ (p + 1) % 2)
/-- one step of value_of -/
def vStep (s : Nat × Bool) (g : Bool) : Nat × Bool := (2 * s.1 + (s.2 ^^ g).toNat, s.2 ^^ g)
def valueOf (gs : List Bool) : Nat := (gs.foldl vStep (0, false)).1
/-- the planes from the highest one on -/
def planes (d : Nat) : List Nat := (List.range d).map fun i => d - 1 - i
/-- behind j planes of d -/
def vAt (g : Nat → Bool) (d : Nat) : Nat → Nat × Bool
  | 0 => (0, false)
  | j + 1 => vStep (vAt g d j) (g (d - 1 - j))
theorem vAt_fold (g : Nat → Bool) (d j : Nat) : (((List.range j).map fun i => d - 1 - i).map g).foldl vStep (0, false) = vAt g d j := by
  induction j with
  | zero => rfl
  | succ j ih => rw [List.range_succ, List.map_append, List.map_append, List.foldl_append, ih]; rfl
theorem valueOf_planes (g : Nat → Bool) (d : Nat) : valueOf ((planes d).map g) = (vAt g d d).1 := by
  unfold valueOf planes
  rw [vAt_fold]
theorem vAt_odd (g : Nat → Bool) (d j : Nat) : (vAt g d j).1 % 2 = (vAt g d j).2.toNat := by
  cases j with
  | zero => rfl
  | succ j =>
    show (2 * (vAt g d j).1 + ((vAt g d j).2 ^^ g (d - 1 - j)).toNat) % 2 = ((vAt g d j).2 ^^ g (d - 1 - j)).toNat
    cases ((vAt g d j).2 ^^ g (d - 1 - j)) <;> simp <;> omega
theorem vAt_half (g : Nat → Bool) (d j : Nat) : (vAt g d (j + 1)).1 / 2 = (vAt g d j).1 := by
  show (2 * (vAt g d j).1 + ((vAt g d j).2 ^^ g (d - 1 - j)).toNat) / 2 = _
  have : ((vAt g d j).2 ^^ g (d - 1 - j)).toNat ≤ 1 := Bool.toNat_le _
  omega
theorem vAt_high (g : Nat → Bool) (d j m : Nat) : (vAt g d (j + m)).1 / 2 ^ m = (vAt g d j).1 := by
  induction m with
  | zero => simp
  | succ m ih =>
    rw [Nat.pow_succ, Nat.mul_comm, ← Nat.div_div_eq_div_mul, ← Nat.add_assoc, vAt_half, ih]
theorem vAt_lt (g : Nat → Bool) (d j : Nat) : (vAt g d j).1 < 2 ^ j := by
  induction j with
  | zero => exact Nat.one_pos
  | succ j ih =>
    show 2 * (vAt g d j).1 + ((vAt g d j).2 ^^ g (d - 1 - j)).toNat < _
    have : ((vAt g d j).2 ^^ g (d - 1 - j)).toNat ≤ 1 := Bool.toNat_le _
    rw [Nat.pow_succ]
    omega
theorem valueOf_lt (g : Nat → Bool) (d : Nat) : valueOf ((planes d).map g) < 2 ^ d := by
  rw [valueOf_planes]
  exact vAt_lt g d d
/-- the gray bits of the value of gray bits -/
theorem gray_valueOf (g : Nat → Bool) {d p : Nat} (hp : p < d) : grayB (valueOf ((planes d).map g)) p = g p := by
  rw [valueOf_planes]
  obtain ⟨j, rfl⟩ : ∃ j, d = j + 1 + p := ⟨d - 1 - p, by omega⟩
  unfold grayB
  have a := vAt_high g (j + 1 + p) (j + 1) p
  have b := vAt_high g (j + 1 + p) j (p + 1)
  rw [show j + (p + 1) = j + 1 + p by omega] at b
  rw [a, b, vAt_odd, vAt_odd]
  show (((vAt g (j + 1 + p) j).2 ^^ g (j + 1 + p - 1 - j)).toNat != (vAt g (j + 1 + p) j).2.toNat) = g p
  rw [show j + 1 + p - 1 - j = p by omega]
  cases (vAt g (j + 1 + p) j).2 <;> cases g p <;> rfl
theorem vAt_gray {v d : Nat} (hv : v < 2 ^ d) (j : Nat) (hj : j ≤ d) : vAt (grayB v) d j = (v / 2 ^ (d - j), v / 2 ^ (d - j) % 2 == 1) := by
  induction j with
  | zero => rw [Nat.sub_zero, Nat.div_eq_of_lt hv]; rfl
  | succ j ih =>
    obtain ⟨k, rfl⟩ : ∃ k, d = j + 1 + k := ⟨d - (j + 1), by omega⟩
    have ih := ih (by omega)
    show vStep (vAt (grayB v) (j + 1 + k) j) (grayB v (j + 1 + k - 1 - j)) = _
    rw [ih, show j + 1 + k - 1 - j = k by omega, show j + 1 + k - (j + 1) = k by omega, show j + 1 + k - j = k + 1 by omega]
    have e : v / 2 ^ (k + 1) = v / 2 ^ k / 2 := by rw [Nat.pow_succ, Nat.div_div_eq_div_mul]
    unfold vStep grayB
    rw [e]
    generalize v / 2 ^ k = u
    have h1 : u % 2 = 0 ∨ u % 2 = 1 := by omega
    have h2 : u / 2 % 2 = 0 ∨ u / 2 % 2 = 1 := by omega
    rcases h1 with h1 | h1 <;> rcases h2 with h2 | h2 <;> simp only [h1, h2] <;> refine Prod.ext ?_ rfl <;> simp <;> omega
/-- the value of the gray bits of a value -/
theorem valueOf_gray {v d : Nat} (hv : v < 2 ^ d) : valueOf ((planes d).map (grayB v)) = v := by
  rw [valueOf_planes, vAt_gray hv d (Nat.le_refl _)]
  simp

/-! ## 5. Stored bits and values -/
/-- the stored bit of a value's channels (v: the value in each channel at one pixel) -/
def storedB (c : Nat) (v : Nat → Nat) (ch pl : Nat) : Bool :=
  if c = 1 then grayB (v 0) pl else if ch = 0 then grayB (v 1) pl else grayB (v (if ch = 1 then 0 else 2)) pl ^^ grayB (v 1) pl
/-- the value in a channel of stored bits (s: channel, plane) -/
def valueB (c d : Nat) (s : Nat → Nat → Bool) (ch : Nat) : Nat :=
  if c = 1 then valueOf ((planes d).map (s 0)) else if ch = 1 then valueOf ((planes d).map (s 0)) else valueOf ((planes d).map fun pl => s 0 pl ^^ s (if ch = 0 then 1 else 2) pl)
theorem valueB_lt (c d : Nat) (s : Nat → Nat → Bool) (ch : Nat) : valueB c d s ch < 2 ^ d := by
  unfold valueB
  split
  · exact valueOf_lt _ _
  · split
    · exact valueOf_lt _ _
    · exact valueOf_lt _ _
theorem stored_value {c d : Nat} (hc : c = 1 ∨ c = 3) (s : Nat → Nat → Bool) {ch pl : Nat} (h1 : ch < c) (h2 : pl < d) : storedB c (valueB c d s) ch pl = s ch pl := by
  rcases hc with rfl | rfl
  · have : ch = 0 := by omega
    subst this
    unfold storedB valueB
    rw [if_pos rfl, if_pos rfl, gray_valueOf _ h2]
  · have v1 : grayB (valueB 3 d s 1) pl = s 0 pl := by
      unfold valueB
      rw [if_neg (by decide), if_pos rfl, gray_valueOf _ h2]
    have v0 : grayB (valueB 3 d s 0) pl = (s 0 pl ^^ s 1 pl) := by
      unfold valueB
      rw [if_neg (by decide), if_neg (by decide), gray_valueOf _ h2, if_pos rfl]
    have v2 : grayB (valueB 3 d s 2) pl = (s 0 pl ^^ s 2 pl) := by
      unfold valueB
      rw [if_neg (by decide), if_neg (by decide), gray_valueOf _ h2, if_neg (by decide)]
    unfold storedB
    rw [if_neg (by decide)]
    have : ch = 0 ∨ ch = 1 ∨ ch = 2 := by omega
    rcases this with rfl | rfl | rfl
    · rw [if_pos rfl, v1]
    · rw [if_neg (by decide), if_pos rfl, v0, v1]
      cases s 0 pl <;> cases s 1 pl <;> rfl
    · rw [if_neg (by decide), if_neg (by decide), v2, v1]
      cases s 0 pl <;> cases s 2 pl <;> rfl
theorem planes_map_congr {d : Nat} {f g : Nat → Bool} (h : ∀ pl, pl < d → f pl = g pl) : (planes d).map f = (planes d).map g := by
  refine List.map_congr_left fun pl hp => h pl ?_
  unfold planes at hp
  obtain ⟨i, hi, rfl⟩ := List.mem_map.mp hp
  have := List.mem_range.mp hi
  omega
theorem valueB_congr {c d : Nat} (hc : c = 1 ∨ c = 3) {s u : Nat → Nat → Bool} (h : ∀ ch pl, ch < c → pl < d → s ch pl = u ch pl) {ch : Nat} : valueB c d s ch = valueB c d u ch := by
  unfold valueB
  have h0 : 0 < c := by omega
  split
  · rw [planes_map_congr fun pl hp => h 0 pl h0 hp]
  · rename_i n1
    have h3 : c = 3 := by omega
    split
    · rw [planes_map_congr fun pl hp => h 0 pl h0 hp]
    · refine congrArg valueOf (planes_map_congr fun pl hp => ?_)
      rw [h 0 pl h0 hp, h _ pl (by split <;> omega) hp]
theorem value_stored {c d : Nat} (hc : c = 1 ∨ c = 3) {v : Nat → Nat} (hv : ∀ ch, ch < c → v ch < 2 ^ d) {ch : Nat} (h1 : ch < c) : valueB c d (storedB c v) ch = v ch := by
  rcases hc with rfl | rfl
  · have : ch = 0 := by omega
    subst this
    unfold valueB
    rw [if_pos rfl]
    have e : storedB 1 v 0 = grayB (v 0) := by funext pl; unfold storedB; rw [if_pos rfl]
    rw [e, valueOf_gray (hv 0 h1)]
  · have s0 : ∀ pl, storedB 3 v 0 pl = grayB (v 1) pl := fun pl => by
      unfold storedB
      rw [if_neg (by decide), if_pos rfl]
    have s1 : ∀ pl, storedB 3 v 1 pl = (grayB (v 0) pl ^^ grayB (v 1) pl) := fun pl => by
      unfold storedB
      rw [if_neg (by decide), if_neg (by decide), if_pos rfl]
    have s2 : ∀ pl, storedB 3 v 2 pl = (grayB (v 2) pl ^^ grayB (v 1) pl) := fun pl => by
      unfold storedB
      rw [if_neg (by decide), if_neg (by decide), if_neg (by decide)]
    unfold valueB
    rw [if_neg (by decide)]
    have : ch = 0 ∨ ch = 1 ∨ ch = 2 := by omega
    rcases this with rfl | rfl | rfl
    · rw [if_neg (by decide), if_pos rfl]
      have e : (fun pl => storedB 3 v 0 pl ^^ storedB 3 v 1 pl) = grayB (v 0) := by
        funext pl
        rw [s0, s1]
        cases grayB (v 0) pl <;> cases grayB (v 1) pl <;> rfl
      rw [e, valueOf_gray (hv 0 h1)]
    · rw [if_pos rfl]
      have e : storedB 3 v 0 = grayB (v 1) := by funext pl; exact s0 pl
      rw [e, valueOf_gray (hv 1 h1)]
    · rw [if_neg (by decide), if_neg (by decide)]
      have e : (fun pl => storedB 3 v 0 pl ^^ storedB 3 v 2 pl) = grayB (v 2) := by
        funext pl
        rw [s0, s2]
        cases grayB (v 2) pl <;> cases grayB (v 1) pl <;> rfl
      rw [e, valueOf_gray (hv 2 h1)]

/-! ## 6. The law, in plain words -/
/-- the picture that packets give: channel, pixel -/
def picB (F : Fr) (P : Ky → List Bool) (ch p : Nat) : Nat := valueB F.c F.d (fun a pl => marks F P F.keys a pl p) ch
/-- the packet bits of a picture -/
def bitsB (F : Fr) (R : Nat → Nat → Nat) (k : Ky) : List Bool := (F.pix k.tl).map fun p => storedB F.c (fun a => R a p) k.ch k.pl
/-- the picture of packets has these packet bits -/
theorem bits_pic {F : Fr} (O : F.Ok) {P : Ky → List Bool} {k : Ky} (hk : F.keyOk k) (hl : (P k).length = (F.pix k.tl).length) : bitsB F (picB F P) k = P k := by
  rw [← marks_bits O hk hl]
  unfold bitsB
  refine List.map_congr_left fun p _ => ?_
  exact stored_value O.c1 (fun a pl => marks F P F.keys a pl p) hk.1 hk.2.2
/-- the picture of a picture's packet bits is the picture -/
theorem pic_bits {F : Fr} (O : F.Ok) {R : Nat → Nat → Nat} {P : Ky → List Bool} (hP : ∀ k, F.keyOk k → P k = bitsB F R k) (hR : ∀ ch p, ch < F.c → p < F.np → R ch p < 2 ^ F.d) {ch p : Nat} (hc : ch < F.c) (hp : p < F.np) : picB F P ch p = R ch p := by
  unfold picB
  have e : ∀ a pl, a < F.c → pl < F.d → marks F P F.keys a pl p = storedB F.c (fun a => R a p) a pl := fun a pl ha hpl =>
    marks_pixel O (S := fun a pl p => storedB F.c (fun a => R a p) a pl) (fun k hk => hP k hk) ha hpl hp
  rw [valueB_congr O.c1 e]
  exact value_stored O.c1 (v := fun a => R a p) (fun a ha => hR a p ha hp) hc
end PP
/-! list(reversed(range(..))) -/
namespace PySem
open Sem (wp)
theorem pp_len_hint (it : Addr) (x left step : Int) :
    Meets (Builtin.«range_iterator.__length_hint__» ⟨[.ref it], []⟩) (fun _ R s => s.heap.get? it = some { cls := .type "range_iterator", dict := none, data := .fields #[rawInt x, rawInt left, rawInt step], slots := #[] } ∧ R (.ok (.ret (Value.int left s.toks))) { s with toks := s.toks + 1 }) :=
  .of_wp fun prog w A R s h => by obtain ⟨hp, g, d, tk, os⟩ := s; obtain ⟨hl, h⟩ := h; wp_walk; exact ⟨_, rfl, h⟩
section
variable {prog : Program} {w : World} {A : Around} {E : Value → Shared → Prop} {s : Shared}
theorem pp_hint {Q : Bool → Shared → Prop} {I : Addr} {x left step : Int} (hit : IsRangeIter s.heap I x left step) (hl : left ≤ 2 ^ 24) (h : ∀ tk, Q false { s with toks := tk }) : wpAny (model prog w) A (Builtin.List.listLengthHint (.ref I)) Q E s := by
  have hT : s.TypeIs (.ref I) "range_iterator" := ⟨_, hit, rfl⟩
  unfold Builtin.List.listLengthHint
  refine wpAny_bind (wpAny_specialOf hT F.nolen_ra ?_)
  show wpAny _ A (specialOf (Value.ref I) (Str.ofString "__length_hint__") >>= _) _ _ _
  refine wpAny_bind (wpAny_specialOf hT F.hint_ra ?_)
  (generalize hid : ("range_iterator.__length_hint__" : String) = id0; (fail_if_success (clear hid id0)); wp_delta; rw [show splitId id0 = some ("range_iterator", "__length_hint__") from by subst hid; decide +kernel]; subst hid)
  refine wpAny_bind (wpAny_isInstance (b := true) hT (by rw [isSubtype_type]; kernel_rfl) ?_)
  show wpAny _ A (call (.builtin "range_iterator.__length_hint__") [.ref I] >>= _) _ _ _
  refine wpAny_bind (call_meets F.slot_range_iterator_length_hint hT F.entry_range_iterator_length_hint (F.args_range_iterator_length_hint_1 _) (pp_len_hint I x left step) ⟨hit, ?_⟩)
  refine wpAny_bind (m := asInt? (.int left s.toks)) (wpAny_pure ?_)
  dsimp only
  have hk : Builtin.List.listTooLong (Int.toNat left) = false := by simp [Builtin.List.listTooLong, sizeLine]; omega
  rw [if_neg (by rw [hk]; decide)]
  exact wpAny_pure (h _)
theorem pp_extend {R : Result → Shared → Prop} {r : Addr} {x st : Int} {n : Nat} (hh : A.handled = none) (hr : IsRangeIter s.heap r x (n : Int) st) (hlen : n ≤ 2 ^ 24) (S : Addr) (res : Value) (c0 : Nat) (hS : s.heap.get? S = some { cls := .type "list", data := .seq #[] c0 })
    (hR : ∀ h' tk acc' c', (∀ b o, b ≠ S → b ≠ r → s.heap.get? b = some o → h'.get? b = some o) → h'.get? S = some { cls := .type "list", dict := none, data := .seq acc' c', slots := #[] } →
      ItemsOf (fun i v => ∃ t, v = .int (x + i * st) t) acc' n → R (.ok (.ret res)) { s with heap := h', toks := tk }) :
    wpAny (model prog w) A.in1 (Builtin.List.listExtendWith (.ref S) (.ref r) res)
      (fun fin s' => match fin with | .done f => R (.ok f) s' | .again c' => c'.quiet = true ∧ codeAny (model prog w) A c' R s') (fun e s' => R (.error e) s') s := by
  have hSr : S ≠ r := fun e => by rw [e, hr] at hS; simp at hS
  have hSf : S ∉ [r] := fun hm => hSr (List.mem_singleton.mp hm)
  have hT : s.TypeIs (.ref r) "range_iterator" := ⟨_, hr, rfl⟩
  have W := (Walks.range (prog := prog) (w := w) (A := A.in1) hh r x st n).toS
  have key : ∀ (h : Heap) (c1 tk : Nat), IsRangeIter h r (x + ((0 : Nat) : Int) * st) ((n : Int) - ((0 : Nat) : Int)) st → (∀ b o, b ≠ S → s.heap.get? b = some o → h.get? b = some o) →
      h.get? S = some { cls := .type "list", data := .seq #[] c1 } → codeAny (model prog w) A (.builtin "list.extend.loop" ⟨[.ref S, .ref r, res], []⟩) R { s with heap := h, toks := tk } := by
    intro h c1 tk hit hk hS1
    refine codeAny_extend_loopS W (by rw [sizeLine_eq]; omega) S hSf res n 0 _ #[] c1 rfl (Nat.zero_le _) hit hS1 (ItemsOf.nil _) fun s' acc' c' hm hS' hacc => ?_
    rw [Moved.eq_with hm]
    refine hR s'.heap s'.toks acc' c' (fun b o hb hbr e => hm.heap b o (fun hmem => ?_) (hk b o hb e)) hS' hacc
    rcases List.mem_cons.mp hmem with e' | hmem
    · exact hb e'
    · exact hbr (List.mem_singleton.mp hmem)
  unfold Builtin.List.listExtendWith
  refine wpAny_bind (wpAny_typeOf (T := "range_iterator") hT ?_)
  have h1 : Builtin.List.listSameRef (.ref S) (.ref r) = false := by simp [Builtin.List.listSameRef, hSr]
  have h2 : (Value.type "range_iterator" == Value.type "list") = false := by decide
  have h3 : (Value.type "range_iterator" == Value.type "tuple") = false := by decide
  simp only [h1, h2, h3, Bool.or_false, Bool.false_eq_true, if_false]
  refine wpAny_bind (wpAny_pyIter_rangeiter hr ?_)
  refine wpAny_bind (wpAny_holding (pp_hint hr (by omega) fun tk => ?_))
  have hit1 : IsRangeIter s.heap r (x + ((0 : Nat) : Int) * st) ((n : Int) - ((0 : Nat) : Int)) st := by simpa using hr
  refine wpAny_ite_split (fun _ => ?_) (fun _ => wpAny_pure ⟨plainId_quiet F.plain_extend_loop _, key _ c0 _ hit1 (fun b o _ e => e) hS⟩)
  refine wpAny_bind (wpAny_rule ?_)
  refine wpAny_bind ?_
  show wpAny _ _ (updateSeq S (·.push .none) >>= fun _ => updateSeq S (·.pop)) _ _ _
  refine wpAny_bind (wpAny_updateSeq hS rfl ?_)
  have hS2 := Heap.get?_update_self (Obj.mapSeq (·.push Value.none)) hS rfl
  refine wpAny_updateSeq (hz := by seq_fits) hS2 rfl ?_
  have hS3 := Heap.get?_update_self (Obj.mapSeq (·.pop)) hS2 rfl
  refine wpAny_pure ⟨plainId_quiet F.plain_extend_loop _, key _ _ _ ?_ (fun b o hb e => ?_) hS3⟩
  · exact (Heap.get?_update_other _ _ hSr).trans ((Heap.get?_update_other _ _ hSr).trans hit1)
  · exact (Heap.get?_update_other _ _ (Ne.symm hb)).trans ((Heap.get?_update_other _ _ (Ne.symm hb)).trans e)
theorem pp_init {R : Result → Shared → Prop} {r : Addr} {x st : Int} {n : Nat} (hh : A.handled = none) (hr : IsRangeIter s.heap r x (n : Int) st) (hlen : n ≤ 2 ^ 24) (S : Addr) (hS : s.heap.get? S = some { cls := .type "list", data := .seq #[] })
    (hR : ∀ h' tk acc' c', (∀ b o, b ≠ S → b ≠ r → s.heap.get? b = some o → h'.get? b = some o) → h'.get? S = some { cls := .type "list", dict := none, data := .seq acc' c', slots := #[] } →
      ItemsOf (fun i v => ∃ t, v = .int (x + i * st) t) acc' n → R (.ok (.ret .none)) { s with heap := h', toks := tk }) :
    wpAny (model prog w) A.in1 (Builtin.«list.__init__» ⟨[.ref S, .ref r], []⟩)
      (fun fin s' => match fin with | .done f => R (.ok f) s' | .again c' => c'.quiet = true ∧ codeAny (model prog w) A c' R s') (fun e s' => R (.error e) s') s := by
  have hSr : S ≠ r := fun e => by rw [e, hr] at hS; simp at hS
  show wpAny _ _ (do let old ← Builtin.List.listItems (.ref S); Builtin.List.listUpdate (.ref S) (fun _ => #[]); letGo old.toList.reverse; Builtin.List.listExtendWith (.ref S) (.ref r) .none) _ _ s
  refine wpAny_bind ?_
  unfold Builtin.List.listItems
  refine wpAny_bind (wpAny_seqItems hS rfl (wpAny_pure ?_))
  show wpAny _ _ (updateSeq S (fun _ => #[]) >>= fun _ => letGo (#[] : Array Value).toList.reverse >>= fun _ => Builtin.List.listExtendWith (.ref S) (.ref r) .none) _ _ s
  refine wpAny_bind (wpAny_updateSeq hS rfl ?_)
  have hS2 := Heap.get?_update_self (Obj.mapSeq (fun _ => (#[] : Array Value))) hS rfl
  have oth : ∀ b o, b ≠ S → s.heap.get? b = some o → (s.heap.update S (Obj.mapSeq (fun _ => (#[] : Array Value)))).get? b = some o :=
    fun b o hb e => (Heap.get?_update_other _ _ (Ne.symm hb)).trans e
  refine wpAny_bind (wpAny_letGo ?_)
  refine pp_extend hh (oth r _ (Ne.symm hSr) hr) hlen S .none _ hS2 fun h' tk acc' c' hk hS' hacc => ?_
  exact hR h' tk acc' c' (fun b o hb hbr e => hk b o hb hbr (oth b o hb e)) hS' hacc
theorem pp_list_riter {Q : Value → Shared → Prop} {r : Addr} {x st : Int} {n : Nat} (hh : A.handled = none) (hr : IsRangeIter s.heap r x (n : Int) st) (hlen : n ≤ 2 ^ 24)
    (hQ : ∀ h' tk acc' c', (∀ b o, b ≠ r → s.heap.get? b = some o → h'.get? b = some o) →
      h'.get? s.heap.objs.size = some { cls := .type "list", dict := none, data := .seq acc' c', slots := #[] } → ItemsOf (fun i v => ∃ t, v = .int (x + i * st) t) acc' n → Q (.ref s.heap.objs.size) { s with heap := h', toks := tk }) :
    wpAny (model prog w) A (call (.type "list") [.ref r]) Q E s := by
  refine callType_codes (Q₁ := fun obj s1 => obj = .ref s.heap.objs.size ∧ s1 = { s with heap := s.heap.push { cls := .type "list", data := .seq #[] } }) F.called_list (F.typeCall_list_1 _) F.entry_list_init
    (code_list_new _ ⟨rfl, rfl⟩) fun obj s1 h1 => ?_
  obtain ⟨rfl, rfl⟩ := h1
  have hS : (s.heap.push { cls := .type "list", data := .seq #[] }).get? s.heap.objs.size = some { cls := .type "list", data := .seq #[] } := Heap.get?_push_size _ rfl
  refine ⟨⟨_, hS, rfl⟩, F.args_list_init_2 _ _, pp_init (A := A.in1) hh (Heap.get?_push_of_some _ hr) hlen _ hS fun h' tk acc' c' hk hS' hacc => ?_⟩
  exact ⟨rfl, hQ h' tk acc' c' (fun b o hbr e => hk b o (Nat.ne_of_lt (Heap.lt_size e)) hbr (Heap.get?_push_of_some _ e)) hS' hacc⟩
end
end PySem
namespace L2
open PySem PySem.Spec PyProof.Rows
/-- n - 1, .., 1, 0 -/
def downV (n : Nat) : List V := (List.range n).map fun i => V.int ((n : Int) - 1 - (i : Nat))
/-- list(reversed(range(n))) -/
def tListDown (te : TE) : TE := fun σ H Q => te σ H fun x H1 => ∃ n : Nat, x = .int n ∧ n ≤ 2 ^ 24 ∧ ∀ q, H1 q = none → Q (.ref q) (upd H1 q (.lst (downV n)))
theorem pe_listDown {X : Cx} {e : Expr} {te : TE} {p p2 p3 pos pos2 pos3 : Pos} (hc : X.calm = true) (hg : Gl X "list") (hm : X.mg "list" = none) (hg2 : Gl X "reversed") (hm2 : X.mg "reversed" = none) (hg3 : Gl X "range") (hm3 : X.mg "range" = none) (he : PE X e te)
    (na : starEach [Expr.Call (.Name "reversed" p2) [Expr.Call (.Name "range" p3) [e] [] pos3] [] pos2] X.env = (false, eval (.Call (.Name "reversed" p2) [Expr.Call (.Name "range" p3) [e] [] pos3] [] pos2) X.env) :: starEach [] X.env := by rfl)
    (nb : starEach [Expr.Call (.Name "range" p3) [e] [] pos3] X.env = (false, eval (.Call (.Name "range" p3) [e] [] pos3) X.env) :: starEach [] X.env := by rfl)
    (nc : starEach [e] X.env = (false, eval e X.env) :: starEach [] X.env := by rfl) :
    PE X (.Call (.Name "list" p) [.Call (.Name "reversed" p2) [.Call (.Name "range" p3) [e] [] pos3] [] pos2] [] pos) (tListDown te) := by
  refine ⟨fun pins s σ H Q I h => ?_⟩
  have R := prg_1 (X := X) (p := p3) (pos := pos3) hg3 hm3 he nc
  refine Call_ (ld_blt I hg hm boot_list (PyProof.Rows.callWith_type1 (args_cons ?_ na) na))
  refine Call_ (ld_blt I hg2 hm2 PyProof.Rows.boot_reversed (PyProof.Rows.callWith_type1 (args_cons (thn (R pins s σ H (fun a b H1 => ∃ n : Nat, a = 0 ∧ b = n ∧ n ≤ 2 ^ 24 ∧ ∀ q, H1 q = none → Q (.ref q) (upd H1 q (.lst (downV n)))) I ?_) fun u s1 hx => args_nil ?_) nb) nb))
  · show te σ H _
    have h : te σ H _ := h
    have e : (fun x H1 => ∃ n : Nat, x = V.int n ∧ n ≤ 2 ^ 24 ∧ ∀ q, H1 q = none → Q (.ref q) (upd H1 q (.lst (downV n)))) = (fun x H1 => ∃ n : Int, x = .int n ∧ ∃ m : Nat, (0 : Int) = 0 ∧ n = m ∧ m ≤ 2 ^ 24 ∧ ∀ q, H1 q = none → Q (.ref q) (upd H1 q (.lst (downV m)))) := by
      funext x H1
      refine propext ⟨fun ⟨n, h1, h2, h3⟩ => ⟨_, h1, n, rfl, rfl, h2, h3⟩, fun ⟨n, h1, m, _, h2, h3, h4⟩ => ⟨m, by rw [h1, h2], h3, h4⟩⟩
    rw [← e]
    exact h
  · obtain ⟨r, a, b, t, w1, v, H1, eu, hr, I1, n, rfl, rfl, hn24, q⟩ := hx
    subst eu
    have hsz : Builtin.Range.rangeSize 0 (n : Int) 1 = (n : Int) := by rw [rangeSize_nat]; omega
    refine call_reversed_range hr (smallRev_one (by omega) (by omega) (by omega) (by omega)) (args_nil ?_)
    have hit : IsRangeIter (s1.heap.push (rngRevObj 0 (n : Int) 1)) s1.heap.objs.size ((n : Int) - 1) (n : Int) (-1) := by
      have e : (s1.heap.push (rngRevObj 0 (n : Int) 1)).get? s1.heap.objs.size = some (rngRevObj 0 (n : Int) 1) := Heap.get?_push_size s1.heap rfl
      unfold rngRevObj at e ⊢
      rw [hsz] at e ⊢
      rw [show (0 : Int) + ((n : Int) - 1) * 1 = (n : Int) - 1 by omega] at e ⊢
      exact e
    refine pp_list_riter (s := { s1 with heap := s1.heap.push (rngRevObj 0 (n : Int) 1) }) (I1.ok.hd hc) hit hn24 fun h' tk acc c' hk e' hi => ?_
    have hsize : (s1.heap.push (rngRevObj 0 (n : Int) 1)).objs.size = s1.heap.objs.size + 1 := Heap.size_push ..
    have hlen : acc.toList.length = n := by rw [Array.length_toList]; exact hi.1
    have hv : Vals (downV n) acc.toList := by
      unfold downV
      rw [← hlen]
      refine vals_of_get acc.toList _ fun j u hj => ?_
      obtain ⟨t, rfl⟩ := hi.2 j u (by rw [← hj, Array.getElem?_toList])
      exact ⟨t, by rw [hlen]; congr 1; omega⟩
    refine ⟨.ref (s1.heap.push (rngRevObj 0 (n : Int) 1)).objs.size, upd H1 (s1.heap.push (rngRevObj 0 (n : Int) 1)).objs.size (.lst (downV n)), I1.laid (fun b o e => hk b o (Nat.ne_of_lt (Heap.lt_size e)) (Heap.get?_push_of_some _ e)) (by rw [hsize]; exact Nat.le_succ _) (show ObjOk X.prog X.w _ _ _ (.lst (downV n)) from ⟨?_, acc.toList, c', hv, ?_⟩), rfl, q _ (I1.hok.fresh (by rw [hsize]; exact Nat.le_succ _))⟩
    · unfold downV; rw [List.length_map, List.length_range, sizeLine_eq]; omega
    · rw [Array.toArray_toList]; exact e'
end L2
/-! for a, b in zip(a list, a text) -/
namespace L2
open PySem PySem.Spec PyProof.Rows
/-- the list at a and the text x, the items in new pairs -/
def ItzS (K : PySem.W.Frag) (a : Addr) (x : Str) : It :=
  ⟨fun i H => ∃ (xs : List V) (v : V) (c : Nat), SqL K H a xs ∧ xs[i]? = some v ∧ x.cps[i]? = some c,
    fun i H v H' => ∃ T y c, v = .ref T ∧ H T = none ∧ H' = upd H T (.tup [y, .str ⟨#[c]⟩]) ∧ (∀ xs, SqL K H a xs → xs[i]? = some y) ∧ x.cps[i]? = some c,
    fun i H => ∃ xs : List V, SqL K H a xs ∧ i ≤ xs.length ∧ i ≤ x.cps.size ∧ (i = xs.length ∨ i = x.cps.size)⟩
theorem turn_zipS {P : Program} {w : World} {K : PySem.W.Frag} {elts : List Expr} {kk : Nat} {tpos : Pos} {a z TI TO i1 i2 : Addr} {x : Str} {t : Tok} (S : ZipSep2 z TI TO i1 i2 [i1, a] [i2]) :
    Turn P w K (.Tuple elts kk tpos) (ItzS K a x) [z, TI, TO, i1, i2] z (fun i h => IsZip h z TI TO .none ∧ IsTupOf2 h TI (.ref i1) (.ref i2) ∧ (∃ x y, IsTupOf2 h TO x y) ∧ h.IsListIter i1 a i ∧ h.IsStrIter i2 (strIterType x) x t i) where
  mem := by simp
  obj := fun i h st c hc => by
    obtain ⟨hz, hTI, ⟨x, y, hTO⟩, ⟨o1, e1, _, d1⟩, ⟨o2, e2, _, d2⟩⟩ := st
    have e' : c = z ∨ c = TI ∨ c = TO ∨ c = i1 ∨ c = i2 := by simpa using hc
    rcases e' with q | q | q | q | q
    · rw [q]; exact ⟨_, hz, fun v q => nomatch q⟩
    · rw [q]; exact ⟨_, hTI, fun v q => nomatch q⟩
    · rw [q]; exact ⟨_, hTO, fun v q => nomatch q⟩
    · rw [q]; exact ⟨o1, e1, fun v q => by rw [d1] at q; cases q⟩
    · rw [q]; exact ⟨o2, e2, fun v q => by rw [d2] at q; cases q⟩
  keep := fun i h h' st k => by
    obtain ⟨hz, hTI, ⟨x, y, hTO⟩, h1, h2⟩ := st
    exact ⟨k z (by simp) _ hz, k TI (by simp) _ hTI, ⟨x, y, k TO (by simp) _ hTO⟩, h1.at fun o q => k i1 (by simp) o q, let ⟨o, ho, r⟩ := h2; ⟨o, k i2 (by simp) o ho, r⟩⟩
  item := by
    intro X hP hw hK hc i pins s σ H E I hf st hg
    subst hP hw hK
    obtain ⟨hz, hTI, ⟨x0, y0, hTO⟩, h1, h2⟩ := st
    obtain ⟨xs, y, c, hqx, hx, hcx⟩ := hg
    obtain ⟨its, rv, p, _⟩ := I.list hqx
    obtain ⟨u, hu, ru⟩ := rv.get hx
    have hzl : z < s.heap.objs.size := Heap.lt_size hz
    have hh : X.A.in1.handled = none := I.ok.hd hc
    have a1 : a ≠ i1 := fun e => by
      have : H i1 = none := (hf i1 (by simp)).1
      obtain ⟨o, _, e1, q, _, _⟩ := p
      obtain ⟨o', e2, c2, d2⟩ := h1
      rw [e, e2] at e1
      cases e1
      rw [c2] at q
      injection q with q'
      exact absurd q' (by decide)
    have D1 := Draws.list (prog := X.prog) (w := X.w) (A := X.A.in1) hh i1 a a1 its.toArray
    have D2 := Draws.text (prog := X.prog) (w := X.w) (A := X.A.in1) hh i2 x t
    have hlen : i < its.toArray.size := by
      have := (List.getElem?_eq_some_iff.mp hu).1
      simpa using this
    have hlc : i < x.cps.size := (Array.getElem?_eq_some_iff.mp hcx).1
    refine wpAny_pyNext_zipD2_item S D1 D2 hz hTI hTO ⟨h1, p.isList⟩ h2 hlen hlc fun x1 x2 h' tk y1 y2 z' TO' h1' h2' hT hsz hk => ?_
    obtain ⟨c', u', hc', rfl⟩ := y2
    have e1 : x1 = u := by
      have y1 : its.toArray[i]? = some x1 := y1
      have : its[i]? = some x1 := by simpa using y1
      rw [hu] at this
      exact (Option.some.inj this).symm
    subst e1
    have e2 : c' = c := by rw [hcx] at hc'; exact (Option.some.inj hc').symm
    subst e2
    refine ⟨_, rfl, wpAny_letOwnedTupleGo_zip (s := { s with heap := h', toks := tk }) z' fun h'' z'' sb => ?_⟩
    have hT2 : h''.get? s.heap.objs.size = some { cls := .type "tuple", data := .seq #[x1, .str ⟨#[c']⟩ u'] } := (sb.2 _ (Nat.ne_of_gt hzl)).trans hT
    have new : ObjOk X.prog X.w (upd H s.heap.objs.size (.tup [y, .str ⟨#[c']⟩])) h'' s.heap.objs.size (.tup [y, .str ⟨#[c']⟩]) :=
      ⟨by show 2 ≤ sizeLine; decide, [x1, .str ⟨#[c']⟩ u'], .cons ru (.cons ⟨_, rfl⟩ .nil), ⟨_, hT2, rfl, _, rfl⟩⟩
    have I1 : Inv X pins σ (upd H s.heap.objs.size (.tup [y, .str ⟨#[c']⟩])) { s with heap := h'', toks := tk } :=
      I.turnedNew (t' := tk) (ch := [z, TI, TO, i1, i2]) (fun c o hb q => (sb.2 c (fun q' => hb (by simp [q']))).trans (hk c o (fun q' => hb (by simp [q'])) (fun q' => hb (by simp [q'])) (fun q' => hb (by simp [q'])) (fun q' => hb (by simp [q'])) q)) hf (Nat.le_refl _) new
    refine ⟨.ref s.heap.objs.size, _, I1, rfl, ⟨_, y, c', rfl, I.hok.fresh (Nat.le_refl _), rfl, fun l hl => by rw [I.list_inj hl hqx]; exact hx, hcx⟩, ⟨z'', ?_, ⟨x1, .str ⟨#[c']⟩ u', ?_⟩, ?_, ?_⟩, fun c hcm => ?_⟩
    · exact (sb.2 _ S.TIz).trans (hk _ _ S.TIz S.TITO S.TIi1 S.TIi2 hTI)
    · exact (sb.2 _ S.TOz).trans TO'
    · exact h1'.1.at fun o q => (sb.2 _ (S.zi1.symm)).trans q
    · obtain ⟨o, ho, r⟩ := h2'
      exact ⟨o, (sb.2 _ (S.zi2.symm)).trans ho, r⟩
    · have hlt : c < s.heap.objs.size := by
        have e' : c = z ∨ c = TI ∨ c = TO ∨ c = i1 ∨ c = i2 := by simpa using hcm
        rcases e' with q | q | q | q | q
        · rw [q]; exact hzl
        · rw [q]; exact Heap.lt_size hTI
        · rw [q]; exact Heap.lt_size hTO
        · rw [q]; obtain ⟨_, e1, _⟩ := h1; exact Heap.lt_size e1
        · rw [q]; obtain ⟨_, e2, _⟩ := h2; exact Heap.lt_size e2
      rw [upd_ne (Nat.ne_of_lt hlt)]
      exact (hf c hcm).1
  done := by
    intro X hP hw hK hc i pins s σ H E I hf st hg
    subst hP hw hK
    obtain ⟨hz, hTI, ⟨x0, y0, hTO⟩, h1, h2⟩ := st
    obtain ⟨xs, hqx, l1, l2, hend⟩ := hg
    obtain ⟨its, rv, p, _⟩ := I.list hqx
    have hh : X.A.in1.handled = none := I.ok.hd hc
    have a1 : a ≠ i1 := fun e => by
      obtain ⟨o, _, e1, q, _, _⟩ := p
      obtain ⟨o', e2, c2, d2⟩ := h1
      rw [e, e2] at e1
      cases e1
      rw [c2] at q
      injection q with q'
      exact absurd q' (by decide)
    have D1 := Draws.list (prog := X.prog) (w := X.w) (A := X.A.in1) hh i1 a a1 its.toArray
    have D2 := Draws.text (prog := X.prog) (w := X.w) (A := X.A.in1) hh i2 x t
    have e1 : its.toArray.size = xs.length := by rw [List.size_toArray]; exact rv.length.symm
    exact wpAny_pyNext_zipD2_end S D1 D2 hz hTI hTO ⟨h1, p.isList⟩ h2 (by rw [e1]; exact l1) l2 (by rw [e1]; exact hend) fun h' tk hk => ⟨rfl, I.turnedL (t' := tk) (ch := [z, TI, TO, i1, i2]) (fun c o hb q =>
      hk c o (fun q' => hb (by simp [q'])) (fun q' => hb (by simp [q'])) (fun q' => hb (by simp [q'])) (fun q' => hb (by simp [q'])) q) hf⟩
  self := fun A i s Q E st h => wpAny_pyIter_zip st.1 h
def iZipS (K : PySem.W.Frag) (ta : TA) : TI := fun σ H R => ta σ H fun vs H1 => ∃ a x xs, vs = [.ref a, .str x] ∧ SqL K H1 a xs ∧ R (ItzS K a x) H1
theorem pi_zipS {X : Cx} {e e2 : Expr} {ta : TA} {p pos tpos : Pos} {elts : List Expr} {kk : Nat} (hg : Gl X "zip") (hm : X.mg "zip" = none) (ha : PA X [e, e2] ta)
    (hs : starEach [e, e2] X.env = (false, eval e X.env) :: starEach [e2] X.env := by rfl) (hpl : (backTo pos (starEach [e2] X.env)).any (·.1) = false := by rfl) :
    PI X (.Tuple elts kk tpos) (.Call (.Name "zip" p) [e, e2] [] pos) (iZipS X.K ta) := by
  refine ⟨fun pins s σ H R I h => ?_⟩
  refine Call_ (ld_blt I hg hm PyProof.Rows.boot_zip (PyProof.Rows.callWith_type1 (thn (ha.run pos pins s σ H _ I h) fun us s1 ⟨vs, H1, I1, r1, q1⟩ => ?_) hs hpl))
  obtain ⟨a, x, xs, ex, hqx, q⟩ := q1
  subst ex
  cases r1 with
  | cons r rr =>
    cases rr with
    | cons r' rr =>
      cases rr
      cases r
      obtain ⟨t, rfl⟩ := r'
      obtain ⟨its, rv, p1, _⟩ := I1.list hqx
      have la : a < s1.heap.objs.size := p1.lt
      refine zip_begins2 (begins_list a its.toArray) (begins_text x t) p1.isList trivial fun h' hz hTI hTO h1 h2 hsz hk => wpAny_pyIter_zip hz ?_
      have I2 : Inv X pins σ H1 { s1 with heap := h' } := I1.kept (t' := s1.toks) hk
      have S : ZipSep2 (s1.heap.objs.size + 4) (s1.heap.objs.size + 2) (s1.heap.objs.size + 3) s1.heap.objs.size (s1.heap.objs.size + 1) [s1.heap.objs.size, a] [s1.heap.objs.size + 1] :=
        zip_sep2 (fp1 := [a]) (fp2 := []) (fun b hb => by rw [List.mem_singleton.mp hb]; exact la) (fun b hb => by cases hb)
      refine ⟨s1.heap.objs.size + 4, [s1.heap.objs.size + 4, s1.heap.objs.size + 2, s1.heap.objs.size + 3, s1.heap.objs.size, s1.heap.objs.size + 1], _, _, H1, rfl, I2, turn_zipS (t := t) S, ⟨hz, hTI, ⟨_, _, hTO⟩, ⟨_, h1, rfl, rfl⟩, ⟨_, h2, rfl, rfl⟩⟩, fun c hcm => ?_, q⟩
      have e' : c = s1.heap.objs.size + 4 ∨ c = s1.heap.objs.size + 2 ∨ c = s1.heap.objs.size + 3 ∨ c = s1.heap.objs.size ∨ c = s1.heap.objs.size + 1 := by simpa using hcm
      have hle : s1.heap.objs.size ≤ c := by
        rcases e' with z | z | z | z | z
        · rw [z]; exact Nat.le_add_right _ _
        · rw [z]; exact Nat.le_add_right _ _
        · rw [z]; exact Nat.le_add_right _ _
        · rw [z]; exact Nat.le_refl _
        · rw [z]; exact Nat.le_add_right _ _
      exact I1.fpOk hle (I1.hok.fresh hle)
/-- for p, c in zip(list, text) of one length, the list standing still -/
theorem for_zipS {K : PySem.W.Frag} {a : Addr} {xs : List V} {x : Str} {g : TG} {tb : TS} {D : Ends} {σ : St} {H : Hp} (hl : xs.length = x.cps.size) (Pv : Nat → St → Hp → Prop) (h0 : Pv 0 σ H) (hq : ∀ i σ H, Pv i σ H → SqL K H a xs)
    (hs : ∀ i y c T σ H, xs[i]? = some y → x.cps[i]? = some c → Pv i σ H → H T = none → g (.ref T) σ (upd H T (.tup [y, .str ⟨#[c]⟩])) fun σ2 H2 => tb { D with nx := Pv (i + 1), ct := Pv (i + 1), bk := D.nx } σ2 H2) (hd : ∀ σ H, Pv xs.length σ H → D.nx σ H) :
    ∃ W : Nat → Nat → St → Hp → Prop, (∃ m, W 0 m σ H) ∧ ∀ i m σ H, W i m σ H →
      ((ItzS K a x).stop i H ∧ D.nx σ H) ∨ ((ItzS K a x).go i H ∧ ∃ N : St → Hp → Prop, (∀ σ' H', N σ' H' → ∃ m', m' < m ∧ W (i + 1) m' σ' H') ∧ ∀ x1 H', (ItzS K a x).yld i H x1 H' → g x1 σ H' fun σ2 H2 => tb { D with nx := N, ct := N, bk := D.nx } σ2 H2) := by
  refine ⟨fun i m σ H => m = xs.length - i ∧ i ≤ xs.length ∧ Pv i σ H, ⟨xs.length, by simp, Nat.zero_le _, h0⟩, ?_⟩
  rintro i m σ H ⟨rfl, hi, p⟩
  have q := hq i σ H p
  by_cases hlt : i < xs.length
  · have hlc : i < x.cps.size := by omega
    refine .inr ⟨⟨xs, xs[i], x.cps[i], q, by simp [hlt], by simp [hlc]⟩, Pv (i + 1), fun σ' H' p' => ⟨xs.length - (i + 1), by omega, rfl, hlt, p'⟩, fun x1 H' y => ?_⟩
    obtain ⟨T, y1, c, rfl, hT, rfl, y2, y3⟩ := y
    exact hs i y1 c T σ H (y2 xs q) y3 p hT
  · have e : i = xs.length := by omega
    subst e
    exact .inl ⟨⟨xs, q, Nat.le_refl _, by omega, .inl rfl⟩, hd σ H p⟩
end L2
/-! != of two dicts with tuple keys that hold the same -/
namespace PySem
open Sem (wp)
section
variable {prog : Program} {w : World} {K : Type} [DecidableEq K] {knd : HeapKind prog w K} {A : Around} {E : Value → Shared → Prop} {s : Shared}
theorem pp_samePairs {nm : String} {a b : Addr} {ka kb : List (K × Addr × Value)} {Q : Bool → Shared → Prop} (hu : knd.room A) (ha : (a == sysModules) = false) (hb : (b == sysModules) = false)
    (da : s.heap.DictOfH knd a ka) (db : s.heap.DictOfH knd b kb) (hlen : ka.length = kb.length) (hits : ∀ x ∈ ka, ∃ p, atKey kb x.1 = some p ∧ SeqAt.EqAt A s x.2.2 p.2 true) (h : Q true s) :
    wpAny (model prog w) A (Builtin.Dict.samePairs nm a b) Q E s := by
  obtain ⟨oa, es, ep, hoa, _, hda, hea, hisa, hna⟩ := da
  obtain ⟨ob, es', ep', hob, _, hdb, heb, hisb, hnb⟩ := db
  have hla : ka.length = es.size := (size_of_entries hea).symm
  have hlb : kb.length = es'.size := (size_of_entries heb).symm
  unfold Builtin.Dict.samePairs Builtin.Dict.showsAll
  rw [if_neg (show ¬ (a == sysModules) = true by rw [ha]; exact Bool.false_ne_true), if_neg (show ¬ (b == sysModules) = true by rw [hb]; exact Bool.false_ne_true)]
  refine wpAny_bind (wpAny_pure (wpAny_bind (wpAny_pure ?_)))
  refine wpAny_bind (wpAny_dictEntries hoa hda ?_)
  dsimp only
  refine wpAny_bind (wpAny_dictEntries hob hdb ?_)
  have hsz : es.size = es'.size := by rw [← hla, ← hlb, hlen]
  rw [if_neg (by rw [hsz]; simp)]
  refine wpAny_bind (wpAny_dictEpoch hoa hda ?_)
  refine wpAny_bind ?_
  rw [Std.Legacy.Range.forIn_eq_forIn_range']
  simp only [Std.Legacy.Range.size, Nat.sub_zero, Nat.add_sub_cancel, Nat.div_one]
  refine wpAny_forIn_list _
    (fun rest q s' => s' = s ∧ q = (none, ()) ∧ ∃ i, rest = List.range' i (es.size - i) ∧ i ≤ es.size)
    _ ?_ ?_ _ _ ⟨rfl, rfl, 0, by simp, Nat.zero_le _⟩
  · rintro x rest q s' ⟨rfl, rfl, i, hr, hi⟩
    have hlt : i < es.size := by
      rcases Nat.lt_or_ge i es.size with h | h
      · exact h
      · rw [Nat.sub_eq_zero_of_le h] at hr; simp at hr
    obtain ⟨rfl, hrest⟩ : x = i ∧ rest = List.range' (i + 1) (es.size - (i + 1)) := by
      have e : es.size - i = (es.size - (i + 1)) + 1 := by omega
      rw [e, List.range'_succ] at hr
      injection hr with h1 h2
      exact ⟨h1, h2⟩
    refine wpAny_bind (wpAny_dictEntries hoa hda ?_)
    have hlt' : x < ka.length := by rw [hla]; exact hlt
    have hex : es[x]? = some (entryOfKey knd ka[x]) := by rw [entry_at hea x, List.getElem?_eq_getElem hlt']; rfl
    rw [hex]
    have hmem : ka[x] ∈ ka := List.getElem_mem hlt'
    obtain ⟨p, hp, heq⟩ := hits ka[x] hmem
    have hisx := hisa ka[x] hmem
    show wpAny _ _ (holding [(entryOfKey knd ka[x]).key, (entryOfKey knd ka[x]).val] _ >>= _) _ _ _
    refine wpAny_bind (wpAny_holding (wpAny_bind (wpAny_dictFind_heap (k := ka[x].1) hu hisx hob hdb heb hisb hnb (fun hno => ?_) (fun j q hj => ?_))))
    · exfalso
      rw [atKey_none_of_get hno] at hp
      cases hp
    · have hq : atKey kb ka[x].1 = some q := atKey_of_get hnb hj
      rw [hp] at hq
      have epq : p = q := Option.some.inj hq
      subst epq
      refine wpAny_bind (wpAny_dictEntries hob hdb ?_)
      rw [entry_at heb j, hj]
      refine wpAny_holding (heq _ _ _ _ ?_)
      show wpAny _ _ (if (!true) = true then _ else _) _ _ _
      rw [if_neg (by decide)]
      refine wpAny_bind (wpAny_dictEpoch hoa hda ?_)
      rw [if_neg (by simp)]
      exact wpAny_pure ⟨rfl, rfl, x + 1, hrest, hlt⟩
  · rintro q s' ⟨rfl, rfl, i, hr, hi⟩
    exact wpAny_pure h
theorem pp_ne_dicts {a b : Addr} {ka kb : List (K × Addr × Value)} {Q : Value → Shared → Prop} (hr : knd.room A.in1) (ha : (a == sysModules) = false) (hb : (b == sysModules) = false)
    (da : s.heap.DictOfH knd a ka) (db : s.heap.DictOfH knd b kb) (hu : A.units < cLine) (hlen : ka.length = kb.length) (hits : ∀ x ∈ ka, ∃ p, atKey kb x.1 = some p ∧ SeqAt.EqAt A.in1 s x.2.2 p.2 true) (h : Q (.bool false) s) :
    wpAny (model prog w) A (compareOp .NotEq (.ref a) (.ref b)) Q E s := by
  refine wpAny_richCompare_same_room (op := .NotEq) da.typeIs db.typeIs PySem.F.slot_dict_ne (wpAny_call_entry PySem.F.slot_dict_ne da.typeIs PySem.F.entry_dict_ne ?_ (PySem.F.args_dict_ne_2 _ _)) hu
  show wpAny _ _ (Builtin.Dict.dictSlotArgs "__ne__" ⟨[.ref a, .ref b], []⟩ >>= _) _ _ s
  refine wpAny_bind ?_
  unfold Builtin.Dict.dictSlotArgs
  refine wpAny_bind (wpAny_notOrdered_dict da.typeIs ?_)
  show wpAny _ _ (pure (Value.ref a, Value.ref b)) _ _ s
  refine wpAny_pure ?_
  refine wpAny_bind (wpAny_isInstance (T := "dict") db.typeIs PySem.F.sub_dict_dict ?_)
  simp only [Bool.not_true, Bool.false_eq_true, if_false]
  refine wpAny_bind (wpAny_pure (wpAny_bind (wpAny_pure ?_)))
  refine wpAny_bind (pp_samePairs hr ha hb da db hlen hits ?_)
  refine wpAny_pure ⟨_, rfl, ?_, ?_⟩
  · exact fun x => nomatch x
  · simpa using h
end
end PySem
namespace L2
open PySem PySem.Spec PyProof.Rows
theorem kt_mem {H : Hp} : ∀ {kvs : List (List Key × V)} {xs : List (List Key × Addr × Value)}, KT H kvs xs → ∀ x ∈ xs, ∃ p ∈ kvs, p.1 = x.1 ∧ RelV p.2 x.2.2
  | _, _, .nil, x, hx => by cases hx
  | _, _, .cons (a := p) (b := q) h t, x, hx => by
    rcases List.mem_cons.mp hx with e | hx
    · subst e
      exact ⟨p, List.mem_cons_self, h.1, h.2.2⟩
    · obtain ⟨p', h1, h2⟩ := kt_mem t x hx
      exact ⟨p', List.mem_cons_of_mem _ h1, h2⟩
section
variable {X : Cx}
/-- a != b, two dicts with tuple keys that hold the same flat values -/
def rNeDT : R2 := fun x y H Q => ∃ a b ks ls, x = .ref a ∧ y = .ref b ∧ H a = some (.dT ks) ∧ H b = some (.dT ls) ∧ ks.length = ls.length ∧ (∀ p ∈ ks, valV ls p.1 = some p.2 ∧ flatB p.2 = true) ∧ Q (.bl false) H
theorem op_ne_dT (hu : X.A.units + 1 < cLine) : OpR X (compareOp .NotEq) rNeDT := by
  intro pins s σ H x y v u Q I rx ry h
  obtain ⟨a, b, ks, ls, rfl, rfl, ea, eb, hlen, hp, q⟩ := h
  obtain rfl : v = Value.ref a := rx
  obtain rfl : u = Value.ref b := ry
  obtain ⟨_, ya, va, ra, da⟩ := dt_of I.hok ea
  obtain ⟨_, yb, vb, rb, db⟩ := dt_of I.hok eb
  have l1 : ks.length = va.length := Paired.length ra
  have l2 : ls.length = vb.length := Paired.length rb
  refine pp_ne_dicts (knd := tupleKind (mixKind X.prog X.w)) (tupleKind_room_in1 hu) ya yb da db (by omega) (by omega) (fun x hx => ?_) (fin_bl I q rfl)
  obtain ⟨p, hm, e1, r1⟩ := kt_mem ra x hx
  obtain ⟨e2, f2⟩ := hp p hm
  rw [e1] at e2
  obtain ⟨w', hw, rw'⟩ := RelO.some_of (v := p.2) (o := (atKey vb x.1).map (·.2)) (by rw [← e2]; exact rb.val x.1)
  obtain ⟨p', hp', hp2⟩ := Option.map_eq_some_iff.mp hw
  refine ⟨p', hp', ?_⟩
  rw [hp2]
  exact eqAt_same r1 rw' f2
end
end L2
/-! [elt for a in .. for b in .. for c in ..] -/
namespace L2
open PySem PySem.Spec PyProof.Rows
section
variable {prog : Program} {w : World} {A : Around} {R : Result → Shared → Prop} {s : Shared} {e t i i' elt : Expr} {c : Nat} {it acc : Value} {env : Env}
/-- a clause's loop: rest is what stands behind the target's store -/
theorem ppLoop {t0 i0 t1 i1 t2 i2 : Expr} {scope : Scope} {pos : Pos} {rest : Sem Unit} (ht : ∀ it, compTurn (.ListComp elt [⟨t0, i0, [], 0⟩, ⟨t1, i1, [], 0⟩, ⟨t2, i2, [], 0⟩] scope pos) c it acc env = (do
      standAt i.pos
      match ← pyNext it with
      | none => pure (.done .next)
      | some v =>
        letOwnedTupleGo t it v
        assign t env v
        rest
        again (.compLoop (.ListComp elt [⟨t0, i0, [], 0⟩, ⟨t1, i1, [], 0⟩, ⟨t2, i2, [], 0⟩] scope pos) c it acc env))) (I : Nat → Shared → Prop)
    (turn : ∀ n s, I n s → wpAny (model prog w) A (pyNext it) (fun r s1 => match r with
      | none => R (.ok .next) s1
      | some v => wpAny (model prog w) A (letOwnedTupleGo t it v) (fun _ s1' => wpAny (model prog w) A (assign t env v) (fun _ s2 =>
          wpAny (model prog w) A rest (fun _ s3 => ∃ m, m < n ∧ I m s3) (fun _ _ => False) s2) (fun _ _ => False) s1') (fun _ _ => False) s1) (fun _ _ => False) s)
    (n : Nat) (h : I n s) : codeAny (model prog w) A (.compLoop (.ListComp elt [⟨t0, i0, [], 0⟩, ⟨t1, i1, [], 0⟩, ⟨t2, i2, [], 0⟩] scope pos) c it acc env) R s := by
  refine codeAny_loop rfl I (fun n s hI => ?_) n h
  show wpAny _ A ((compTurn (.ListComp elt [⟨t0, i0, [], 0⟩, ⟨t1, i1, [], 0⟩, ⟨t2, i2, [], 0⟩] scope pos) c it acc env).onRaise (fun x => do noteFrame x env; theTreesLotGoes x)) _ _ s
  refine wpAny_noted ?_
  rw [ht]
  refine wpAny_bind (wpAny_standAt (wpAny_bind (wpAny_mono (turn n s hI) (fun r s1 h1 => ?_) fun _ _ z => z.elim)))
  cases r with
  | none => exact wpAny_pure h1
  | some v =>
    refine wpAny_bind (wpAny_mono h1 (fun _ s1' h1' => ?_) fun _ _ z => z.elim)
    refine wpAny_bind (wpAny_mono h1' (fun _ s2 h2 => wpAny_bind (wpAny_mono h2 (fun _ s3 h3 => wpAny_pure ⟨rfl, h3⟩) fun _ _ z => z.elim)) fun _ _ z => z.elim)
/-- a further clause's start -/
theorem ppStart {t0 i0 t1 i1 t2 i2 : Expr} {scope : Scope} {pos : Pos} (hc : c = 1 ∨ c = 2)
    (h0 : codeAny (model prog w) A (.compLoop (.ListComp elt [⟨t0, i0, [], 0⟩, ⟨t1, i1, [], 0⟩, ⟨t2, i2, [], 0⟩] scope pos) c it acc env) R s)
    (h : wpAny (model prog w) A (pyIter it) (fun it' s' => codeAny (model prog w) A (.compLoop (.ListComp elt [⟨t0, i0, [], 0⟩, ⟨t1, i1, [], 0⟩, ⟨t2, i2, [], 0⟩] scope pos) c it' acc env) R s')
      (notedBy (model prog w) A env fun x s' => R (.error x) s') s) :
    codeAny (model prog w) A (.compStart (.ListComp elt [⟨t0, i0, [], 0⟩, ⟨t1, i1, [], 0⟩, ⟨t2, i2, [], 0⟩] scope pos) c it acc env) R s := by
  refine codeAny_of_tree ?_
  show wpAny _ _ ((compStart (.ListComp elt [⟨t0, i0, [], 0⟩, ⟨t1, i1, [], 0⟩, ⟨t2, i2, [], 0⟩] scope pos) c it acc env).onRaise (fun x => do noteFrame x env; standAt theWindowsPlace)) _ _ s
  refine wpAny_notedAt ?_
  rcases hc with rfl | rfl
  · unfold compStart
    show wpAny _ _ (ask >>= _) _ _ s
    refine wpAny_bind (wpAny_askSetting (wpAny_ite ?_))
    split
    · first
        | exact wpAny_bind (wpAny_pure (wpAny_pure (And.intro rfl h0)))
        | exact wpAny_pure (And.intro rfl h0)
    · (refine wpAny_bind (wpAny_rule ?_); show wpAny _ _ (standAt i1.pos >>= _) _ _ s; exact wpAny_bind (wpAny_standAt (wpAny_bind (wpAny_mono h (fun it' s' h' => wpAny_pure (And.intro rfl h')) fun _ _ x => x))))
  · unfold compStart
    show wpAny _ _ (ask >>= _) _ _ s
    refine wpAny_bind (wpAny_askSetting (wpAny_ite ?_))
    split
    · first
        | exact wpAny_bind (wpAny_pure (wpAny_pure (And.intro rfl h0)))
        | exact wpAny_pure (And.intro rfl h0)
    · (refine wpAny_bind (wpAny_rule ?_); show wpAny _ _ (standAt i2.pos >>= _) _ _ s; exact wpAny_bind (wpAny_standAt (wpAny_bind (wpAny_mono h (fun it' s' h' => wpAny_pure (And.intro rfl h')) fun _ _ x => x))))
end
/-- what a turn does behind a clause's store: Nx the heap that it is to reach -/
abbrev TB := St → Hp → (Hp → Prop) → Prop
/-- the innermost: the element, appended to the list at D -/
def bElt (te : TE) (D : Addr) : TB := fun σ H Nx => te σ H fun y H' => ∃ acc, H' D = some (.lst acc) ∧ acc.length < sizeLine ∧ Nx (upd H' D (.lst (acc ++ [y])))
/-- a further clause: its own loop -/
def bFor (wi : TI) (g : TG) (vs : List Nat) (body : TB) : TB := fun σ H Nx => wi σ H fun J H1 => ∃ W : Nat → Nat → Hp → Prop, (∃ m, W 0 m H1) ∧ ∀ j k H, W j k H →
  (J.stop j H ∧ Nx H) ∨ (J.go j H ∧ ∃ Nx1 : Hp → Prop, (∀ H', Nx1 H' → ∃ k', k' < k ∧ W (j + 1) k' H') ∧ ∀ x H', J.yld j H x H' → g x (wipe σ vs) H' fun σ2 H2 => wipe σ2 vs = wipe σ vs ∧ body σ2 H2 Nx1)
/-- the remainder of a turn runs by the reading body; vs: the slots that it may forget -/
def BodyRun (B : Cx) (vs : List Nat) (rest : Sem Unit) (body : TB) : Prop :=
  ∀ (p : List (Addr × Obj)) (s : Shared) (σ : St) (H : Hp) (Nx : Hp → Prop) (Fin : Shared → Prop), Inv B p σ H s → body σ H Nx →
    (∀ σ' H' s', Inv B p σ' H' s' → σ'.length = σ.length → (∀ (j : Nat) v, j ∉ vs → σ[j]? = some (some v) → σ'[j]? = some (some v)) → Nx H' → Fin s') →
    wpAny (model B.prog B.w) B.A rest (fun _ s' => Fin s') (fun _ _ => False) s
section
variable {B : Cx} {e t i : Expr} {c : Nat} {acc : Value} {wi : TI} {g : TG} {vs vs1 : List Nat} {body : TB} {rest : Sem Unit}
theorem ppLoopRun {elt t0 i0 t1 i1 t2 i2 : Expr} {scope : Scope} {pos : Pos} (hc : B.calm = true) (hg : PG B t g) (hxe : B.xe = fun _ _ => False) (hb : BodyRun B vs1 rest body) (hsub : ∀ j ∈ vs1, j ∈ vs)
    (ht : ∀ it, compTurn (.ListComp elt [⟨t0, i0, [], 0⟩, ⟨t1, i1, [], 0⟩, ⟨t2, i2, [], 0⟩] scope pos) c it acc B.env = (do
      standAt i.pos
      match ← pyNext it with
      | none => pure (.done .next)
      | some v =>
        letOwnedTupleGo t it v
        assign t B.env v
        rest
        again (.compLoop (.ListComp elt [⟨t0, i0, [], 0⟩, ⟨t1, i1, [], 0⟩, ⟨t2, i2, [], 0⟩] scope pos) c it acc B.env)))
    {p : List (Addr × Obj)} {s : Shared} {σ : St} {H : Hp} {Nx : Hp → Prop} {Fin : Shared → Prop} {it : Addr} {fp : List Addr} {tn : Nat → Heap → Prop} {J : It} (I : Inv B p σ H s) (T : Turn B.prog B.w B.K t J fp it tn) (st : tn 0 s.heap) (hf : ∀ b ∈ fp, FpOk B p H b)
    (h : ∃ W : Nat → Nat → Hp → Prop, (∃ m, W 0 m H) ∧ ∀ j k H, W j k H →
      (J.stop j H ∧ Nx H) ∨ (J.go j H ∧ ∃ Nx1 : Hp → Prop, (∀ H', Nx1 H' → ∃ k', k' < k ∧ W (j + 1) k' H') ∧ ∀ x H', J.yld j H x H' → g x (wipe σ vs) H' fun σ2 H2 => wipe σ2 vs = wipe σ vs ∧ body σ2 H2 Nx1))
    (fin : ∀ σ' H' s', Inv B p σ' H' s' → σ'.length = σ.length → (∀ (j : Nat) v, j ∉ vs → σ[j]? = some (some v) → σ'[j]? = some (some v)) → Nx H' → Fin s') :
    codeAny (model B.prog B.w) B.A (.compLoop (.ListComp elt [⟨t0, i0, [], 0⟩, ⟨t1, i1, [], 0⟩, ⟨t2, i2, [], 0⟩] scope pos) c (.ref it) acc B.env) (fun r s' => match r with | .ok _ => Fin s' | .error _ => False) s := by
  obtain ⟨W, ⟨m0, w0⟩, turn⟩ := h
  have stat : ∀ {H' : Hp}, (∀ b ∈ fp, H' b = none) → ∀ b ∈ fp, FpOk B p H' b := fun hn b hb => ⟨hn b hb, (hf b hb).2⟩
  refine ppLoop ht (fun k s' => ∃ j H', Inv B p (wipe σ vs) H' s' ∧ tn j s'.heap ∧ (∀ b ∈ fp, H' b = none) ∧ W j k H') ?_ m0 ⟨0, H, I.weak (wipe_length _ _) (fun j v e => (wipe_some e).1), st, fun b hb => (hf b hb).1, w0⟩
  rintro k s1 ⟨j, H1, I1, st1, n1, w1⟩
  rcases turn j k H1 w1 with ⟨stop, nx⟩ | ⟨go, Nx1, hNx1, step⟩
  · refine thnF (T.done B rfl rfl rfl hc j _ s1 (wipe σ vs) H1 (fun _ _ => False) I1 (stat n1) st1 stop) fun r s2 ⟨hr, I2⟩ => ?_
    subst hr
    refine fin _ H1 s2 I2 (wipe_length _ _) (fun j v hj e => ?_) nx
    rw [wipe_out hj]
    exact e
  · refine thnF (T.item B rfl rfl rfl hc j _ s1 (wipe σ vs) H1 (fun _ _ => False) I1 (stat n1) st1 go) fun r s2 ⟨u, hr, h2⟩ => ?_
    subst hr
    refine thnF h2 fun _ s3 ⟨x, H3, I3, r3, y3, st3, n3⟩ => ?_
    have I3' := I3.pinned (stat n3) (T.obj _ _ st3)
    have hgr := hg.run _ s3 (wipe σ vs) H3 x u _ I3' r3 (step x H3 y3)
    rw [hxe] at hgr
    refine thnF hgr fun _ s4 ⟨σ4, H4, I4, hw4, q4⟩ => ?_
    refine hb _ s4 σ4 H4 Nx1 _ I4 q4 fun σ5 H5 s5 I5 hl5 hk5 nx5 => ?_
    obtain ⟨k', hk, w5⟩ := hNx1 H5 nx5
    have pin' : ∀ b ∈ fp, ∀ o, s3.heap.get? b = some o → s5.heap.get? b = some o ∧ H5 b = none := fun b hb o e =>
      let z := I5.pin (b, o) (List.mem_append_right _ (List.mem_append_right _ (mem_pinsAt hb e)))
      ⟨z.1, z.2.1⟩
    refine ⟨k', hk, j + 1, H5, I5.unpinned.weak (by rw [hl5, ← hw4, wipe_length]) (fun j v e => ?_), T.keep _ _ _ st3 fun b hb o e => (pin' b hb o e).1, fun b hb => ?_, w5⟩
    · rw [← hw4] at e
      obtain ⟨e1, e2⟩ := wipe_some e
      exact hk5 j v (fun z => e2 (hsub j z)) e1
    · obtain ⟨o, e, _⟩ := T.obj _ _ st3 b hb
      exact (pin' b hb o e).2
end
section
variable {B : Cx} {elt t0 i0 t1 i1 t2 i2 : Expr} {scope : Scope} {pos : Pos} {D : Addr}
theorem ppTurn0a (it acc : Value) (env : Env) :
    compTurn (.ListComp elt [⟨t0, i0, [], 0⟩, ⟨t1, i1, [], 0⟩, ⟨t2, i2, [], 0⟩] scope pos) 0 it acc env = (do
      standAt i0.pos
      match ← pyNext it with
      | none => pure (.done .next)
      | some v =>
        letOwnedTupleGo t0 it v
        assign t0 env v
        let mut ok := true
        for c in ([] : List Expr) do
          if ok then ok ← isTrue c env (eval c env)
        if ok then
          let x ← eval i1 env
          standAt i1.pos
          let x ← foldedSetIterable i1 env x
          let _ ← runOwn (.compStart (.ListComp elt [⟨t0, i0, [], 0⟩, ⟨t1, i1, [], 0⟩, ⟨t2, i2, [], 0⟩] scope pos) 1 (← holding [x] (pyIter x)) acc env) env
        again (.compLoop (.ListComp elt [⟨t0, i0, [], 0⟩, ⟨t1, i1, [], 0⟩, ⟨t2, i2, [], 0⟩] scope pos) 0 it acc env)) := by rfl
theorem ppTurn0 (it acc : Value) (env : Env) :
    compTurn (.ListComp elt [⟨t0, i0, [], 0⟩, ⟨t1, i1, [], 0⟩, ⟨t2, i2, [], 0⟩] scope pos) 0 it acc env = (do
      standAt i0.pos
      match ← pyNext it with
      | none => pure (.done .next)
      | some v =>
        letOwnedTupleGo t0 it v
        assign t0 env v
        (do
          let x ← eval i1 env
          standAt i1.pos
          let x ← foldedSetIterable i1 env x
          let _ ← runOwn (.compStart (.ListComp elt [⟨t0, i0, [], 0⟩, ⟨t1, i1, [], 0⟩, ⟨t2, i2, [], 0⟩] scope pos) 1 (← holding [x] (pyIter x)) acc env) env)
        again (.compLoop (.ListComp elt [⟨t0, i0, [], 0⟩, ⟨t1, i1, [], 0⟩, ⟨t2, i2, [], 0⟩] scope pos) 0 it acc env)) := by
  rw [ppTurn0a]
  simp only [List.forIn_nil, pure_bind, if_true, bind_assoc]
theorem ppTurn1a (it acc : Value) (env : Env) :
    compTurn (.ListComp elt [⟨t0, i0, [], 0⟩, ⟨t1, i1, [], 0⟩, ⟨t2, i2, [], 0⟩] scope pos) 1 it acc env = (do
      standAt i1.pos
      match ← pyNext it with
      | none => pure (.done .next)
      | some v =>
        letOwnedTupleGo t1 it v
        assign t1 env v
        let mut ok := true
        for c in ([] : List Expr) do
          if ok then ok ← isTrue c env (eval c env)
        if ok then
          let x ← eval i2 env
          standAt i2.pos
          let x ← foldedSetIterable i2 env x
          let _ ← runOwn (.compStart (.ListComp elt [⟨t0, i0, [], 0⟩, ⟨t1, i1, [], 0⟩, ⟨t2, i2, [], 0⟩] scope pos) 2 (← holding [x] (pyIter x)) acc env) env
        again (.compLoop (.ListComp elt [⟨t0, i0, [], 0⟩, ⟨t1, i1, [], 0⟩, ⟨t2, i2, [], 0⟩] scope pos) 1 it acc env)) := by rfl
theorem ppTurn1 (it acc : Value) (env : Env) :
    compTurn (.ListComp elt [⟨t0, i0, [], 0⟩, ⟨t1, i1, [], 0⟩, ⟨t2, i2, [], 0⟩] scope pos) 1 it acc env = (do
      standAt i1.pos
      match ← pyNext it with
      | none => pure (.done .next)
      | some v =>
        letOwnedTupleGo t1 it v
        assign t1 env v
        (do
          let x ← eval i2 env
          standAt i2.pos
          let x ← foldedSetIterable i2 env x
          let _ ← runOwn (.compStart (.ListComp elt [⟨t0, i0, [], 0⟩, ⟨t1, i1, [], 0⟩, ⟨t2, i2, [], 0⟩] scope pos) 2 (← holding [x] (pyIter x)) acc env) env)
        again (.compLoop (.ListComp elt [⟨t0, i0, [], 0⟩, ⟨t1, i1, [], 0⟩, ⟨t2, i2, [], 0⟩] scope pos) 1 it acc env)) := by
  rw [ppTurn1a]
  simp only [List.forIn_nil, pure_bind, if_true, bind_assoc]
theorem ppTurn2a (it acc : Value) (env : Env) :
    compTurn (.ListComp elt [⟨t0, i0, [], 0⟩, ⟨t1, i1, [], 0⟩, ⟨t2, i2, [], 0⟩] scope pos) 2 it acc env = (do
      standAt i2.pos
      match ← pyNext it with
      | none => pure (.done .next)
      | some v =>
        letOwnedTupleGo t2 it v
        assign t2 env v
        let mut ok := true
        for c in ([] : List Expr) do
          if ok then ok ← isTrue c env (eval c env)
        if ok then
          (do let _ ← call (.builtin "list.append") [acc, ← eval elt env])
        again (.compLoop (.ListComp elt [⟨t0, i0, [], 0⟩, ⟨t1, i1, [], 0⟩, ⟨t2, i2, [], 0⟩] scope pos) 2 it acc env)) := by rfl
theorem ppTurn2 (it acc : Value) (env : Env) :
    compTurn (.ListComp elt [⟨t0, i0, [], 0⟩, ⟨t1, i1, [], 0⟩, ⟨t2, i2, [], 0⟩] scope pos) 2 it acc env = (do
      standAt i2.pos
      match ← pyNext it with
      | none => pure (.done .next)
      | some v =>
        letOwnedTupleGo t2 it v
        assign t2 env v
        (do let _ ← call (.builtin "list.append") [acc, ← eval elt env])
        again (.compLoop (.ListComp elt [⟨t0, i0, [], 0⟩, ⟨t1, i1, [], 0⟩, ⟨t2, i2, [], 0⟩] scope pos) 2 it acc env)) := by
  rw [ppTurn2a]
  simp only [List.forIn_nil, pure_bind, if_true, bind_assoc]
theorem bodyElt {te : TE} (hxe : B.xe = fun _ _ => False) (he : PE B elt te) : BodyRun B [] (do let _ ← call (.builtin "list.append") [.ref D, ← eval elt B.env]) (bElt te D) := by
  intro p s σ H Nx Fin I h fin
  have r := he.run p s σ H _ I h
  rw [hxe] at r
  refine wpAny_bind (thnF r fun v s1 ⟨y, H1, I1, r1, acc, hD, hz, nx⟩ => ?_)
  refine wpAny_bind (app_ok (X := B) I1 hD hz r1 fun s2 I2 => wpAny_pure ?_)
  exact fin σ _ s2 I2 rfl (fun _ _ _ e => e) nx
theorem bodyFor {c : Nat} {t i : Expr} {wi : TI} {g : TG} {vs vs1 : List Nat} {body : TB} {rest : Sem Unit} (hcc : c = 1 ∨ c = 2) (hc : B.calm = true) (hxe : B.xe = fun _ _ => False) (hi : PI B t i wi) (hg : PG B t g) (hb : BodyRun B vs1 rest body) (hsub : ∀ j ∈ vs1, j ∈ vs)
    (hs : ∀ x, foldedSetIterable i B.env x = pure x)
    (ht : ∀ it, compTurn (.ListComp elt [⟨t0, i0, [], 0⟩, ⟨t1, i1, [], 0⟩, ⟨t2, i2, [], 0⟩] scope pos) c it (.ref D) B.env = (do
      standAt i.pos
      match ← pyNext it with
      | none => pure (.done .next)
      | some v =>
        letOwnedTupleGo t it v
        assign t B.env v
        rest
        again (.compLoop (.ListComp elt [⟨t0, i0, [], 0⟩, ⟨t1, i1, [], 0⟩, ⟨t2, i2, [], 0⟩] scope pos) c it (.ref D) B.env))) :
    BodyRun B vs (do
          let x ← eval i B.env
          standAt i.pos
          let x ← foldedSetIterable i B.env x
          let _ ← runOwn (.compStart (.ListComp elt [⟨t0, i0, [], 0⟩, ⟨t1, i1, [], 0⟩, ⟨t2, i2, [], 0⟩] scope pos) c (← holding [x] (pyIter x)) (.ref D) B.env) B.env) (bFor wi g vs body) := by
  intro p s σ H Nx Fin I h fin
  have r := hi.run p s σ H _ I h
  rw [hxe] at r
  refine wpAny_bind (thnF r fun v s1 hx => ?_)
  refine wpAny_bind (wpAny_standAt (wpAny_bind (wpAny_of_eq (hs v) (wpAny_bind (wpAny_holding (thnF hx fun itv s2 h2 => ?_))))))
  obtain ⟨it, fp, tn, J, H2, e, I2, T, st2, f2, q⟩ := h2
  subst e
  have loop := ppLoopRun hc hg hxe hb hsub ht I2 T st2 f2 q fin
  have start := ppStart hcc loop (T.self B.A 0 s2 _ _ st2 loop)
  refine wpAny_bind (wpAny_runOwn ?_)
  rw [Around.mark_none]
  refine codeAny_mono start fun r s' hr => ?_
  cases r with
  | ok f =>
    first
      | exact wpAny_pure hr
      | exact wpAny_bind (wpAny_pure (wpAny_pure hr))
  | error e => exact hr.elim
end
section
variable {X : Cx}
/-- three clauses, no tests. vs: the block's names; vs1: those of the second and third target; vs2: those of the third -/
def tLc3 (wi : TI) (g : TG) (wi1 : TI) (g1 : TG) (wi2 : TI) (g2 : TG) (te : TE) (vs vs1 vs2 : List Nat) : TE := fun σ H Q => wi σ H fun J H1 => ∀ D, H1 D = none → ∃ W : Nat → Nat → Hp → Prop, (∃ m, W 0 m (upd H1 D (.lst []))) ∧ ∀ i m H, W i m H →
  (J.stop i H ∧ Q (.ref D) H) ∨ (J.go i H ∧ ∃ Nx : Hp → Prop, (∀ H', Nx H' → ∃ m', m' < m ∧ W (i + 1) m' H') ∧ ∀ x H', J.yld i H x H' → g x (wipe σ vs) H' fun σ2 H2 => wipe σ2 vs = wipe σ vs ∧ bFor wi1 g1 vs1 (bFor wi2 g2 vs2 (bElt te D)) σ2 H2 Nx)
theorem pe_lc3 {elt t0 i0 t1 i1 t2 i2 : Expr} {scope : Scope} {own : List (Str × Nat)} {vs1 vs2 : List Nat} {pos : Pos} {wi wi1 wi2 : TI} {g g1 g2 : TG} {te : TE} (hc : X.calm = true) (hN : X.N.Nodup) (hi : PI X t0 i0 wi) (ok : BlkOk X.N X.env.scope scope own) (hv1 : ∀ i ∈ vs1, i ∈ own.map (·.2)) (hv2 : ∀ i ∈ vs2, i ∈ vs1)
    (hg : ∀ (s : Shared) (H : Hp) (C : Addr) (cl : List (Str × Addr)) (fp : List Addr), PG (X.blk s H scope (compEnvC scope cl C X.env) fp) t0 g)
    (hi1 : ∀ (s : Shared) (H : Hp) (C : Addr) (cl : List (Str × Addr)) (fp : List Addr), PI (X.blk s H scope (compEnvC scope cl C X.env) fp) t1 i1 wi1)
    (hg1 : ∀ (s : Shared) (H : Hp) (C : Addr) (cl : List (Str × Addr)) (fp : List Addr), PG (X.blk s H scope (compEnvC scope cl C X.env) fp) t1 g1)
    (hi2 : ∀ (s : Shared) (H : Hp) (C : Addr) (cl : List (Str × Addr)) (fp : List Addr), PI (X.blk s H scope (compEnvC scope cl C X.env) fp) t2 i2 wi2)
    (hg2 : ∀ (s : Shared) (H : Hp) (C : Addr) (cl : List (Str × Addr)) (fp : List Addr), PG (X.blk s H scope (compEnvC scope cl C X.env) fp) t2 g2)
    (he : ∀ (s : Shared) (H : Hp) (C : Addr) (cl : List (Str × Addr)) (fp : List Addr), PE (X.blk s H scope (compEnvC scope cl C X.env) fp) elt te)
    (hs : ∀ x, foldedSetIterable i0 X.env x = pure x := by intro _; rfl) (hs1 : ∀ env x, foldedSetIterable i1 env x = pure x := by intro _ _; rfl) (hs2 : ∀ env x, foldedSetIterable i2 env x = pure x := by intro _ _; rfl) :
    PE X (.ListComp elt [⟨t0, i0, [], 0⟩, ⟨t1, i1, [], 0⟩, ⟨t2, i2, [], 0⟩] scope pos) (tLc3 wi g wi1 g1 wi2 g2 te (own.map (·.2)) vs1 vs2) := by
  refine ⟨fun pins s σ H Q I h => ?_⟩
  rw [eval_ListComp]
  have hfree : ∀ y ∈ scope.names, y.2 = .free → ∃ c, X.env.cells.lookup y.1 = some c := fun y hy e => by
    rcases ok.free y hy e with k | k
    · exact I.ok.has _ (.inl k)
    · exact I.ok.has _ (.inr k)
  refine wpAny_comprehension_free (use := none) rfl hs (closure_ok hfree) ok.kind (fun y hy e => by rw [ok.uniq y hy, e])
    (thn (hi.run pins s σ H _ I h) fun xv s1 hx => thn hx fun itv s2 h2 => ?_)
  obtain ⟨it, fp, tn, J, H2, e, I2, T, st2, f2, q⟩ := h2
  subst e
  refine wpAny_newObj_type (newEnv_comp ?_) (by show 0 ≤ sizeLine; decide)
  generalize hD : s2.heap.objs.size = D
  have hDn : H2 D = none := I2.hok.fresh (Nat.le_of_eq hD)
  obtain ⟨W, ⟨m0, w0⟩, turn⟩ := q D hDn
  generalize hs3 : ({ s2 with heap := s2.heap.push { cls := .type "list", data := .seq ([] : List Value).toArray } } : Shared) = s3
  have I3 : Inv X pins σ (upd H2 D (.lst [])) s3 := by
    rw [← hs3]
    refine I2.laid (t' := s2.toks) (fun b o e => Heap.get?_push_of_some _ e) (Nat.le_of_eq hD) ⟨Nat.zero_le _, [], 0, .nil, ?_⟩
    rw [← hD]
    exact Heap.get?_push_size _ rfl
  have h3 : s3.heap = s2.heap.push { cls := .type "list", data := .seq ([] : List Value).toArray } := by rw [← hs3]
  have sz : ∀ b ∈ fp, b < s2.heap.objs.size := fun b hb => by
    obtain ⟨o, e, _⟩ := T.obj _ _ st2 b hb
    exact Heap.lt_size e
  have f3 : ∀ b ∈ fp, FpOk X pins (upd H2 D (.lst [])) b ∧ b < s3.heap.objs.size := fun b hb => by
    have hlt := sz b hb
    refine ⟨⟨?_, (f2 b hb).2⟩, by rw [h3, Heap.size_push]; exact Nat.lt_succ_of_lt hlt⟩
    rw [upd_ne (by rw [← hD]; exact Nat.ne_of_lt hlt)]
    exact (f2 b hb).1
  have st3 : tn 0 s3.heap := T.keep _ _ _ st2 fun b _ o e => by rw [h3]; exact Heap.get?_push_of_some _ e
  have I4 := block_start I3 ok hN f3
  have pg := hg s3 (upd H2 D (.lst [])) s3.heap.objs.size (cellsFrom (s3.heap.objs.size + 1) scope.names (cloFrom X.env.cells scope.names [])) fp
  have pe := he s3 (upd H2 D (.lst [])) s3.heap.objs.size (cellsFrom (s3.heap.objs.size + 1) scope.names (cloFrom X.env.cells scope.names [])) fp
  have pi1 := hi1 s3 (upd H2 D (.lst [])) s3.heap.objs.size (cellsFrom (s3.heap.objs.size + 1) scope.names (cloFrom X.env.cells scope.names [])) fp
  have pg1 := hg1 s3 (upd H2 D (.lst [])) s3.heap.objs.size (cellsFrom (s3.heap.objs.size + 1) scope.names (cloFrom X.env.cells scope.names [])) fp
  have pi2 := hi2 s3 (upd H2 D (.lst [])) s3.heap.objs.size (cellsFrom (s3.heap.objs.size + 1) scope.names (cloFrom X.env.cells scope.names [])) fp
  have pg2 := hg2 s3 (upd H2 D (.lst [])) s3.heap.objs.size (cellsFrom (s3.heap.objs.size + 1) scope.names (cloFrom X.env.cells scope.names [])) fp
  show codeAny _ _ (.compStart (.ListComp elt [⟨t0, i0, [], 0⟩, ⟨t1, i1, [], 0⟩, ⟨t2, i2, [], 0⟩] scope pos) 0 (.ref it) (.ref D) (compEnvC scope (cellsFrom (s3.heap.objs.size + 1) scope.names (cloFrom X.env.cells scope.names [])) s3.heap.objs.size X.env)) (compPost (model X.prog X.w) X.A X.xe none _ (.ref D) s3.heap.objs.size) { s3 with heap := pushCells (s3.heap.push { cls := .type "dict", data := .dict #[] }) scope.names }
  have nfp : ∀ b ∈ fp, (upd H2 D (.lst [])) b = none := fun b hb => (f3 b hb).1.1
  generalize hce : compEnvC scope (cellsFrom (s3.heap.objs.size + 1) scope.names (cloFrom X.env.cells scope.names [])) s3.heap.objs.size X.env = ce at I4 pg pe pi1 pg1 pi2 pg2 ⊢
  have cL : ce.locals = s3.heap.objs.size := by subst hce; rfl
  generalize hH3 : upd H2 D (.lst []) = H3 at I3 I4 pg pe pi1 pg1 pi2 pg2 w0 nfp f3
  generalize hs4 : ({ s3 with heap := pushCells (s3.heap.push { cls := .type "dict", data := .dict #[] }) scope.names } : Shared) = s4 at I4 ⊢
  have st4 : tn 0 s4.heap := T.keep _ _ _ st3 fun b _ o e => by rw [← hs4]; exact pushCells_keeps _ _ _ _ (Heap.get?_push_of_some _ e)
  have stat : ∀ {σ' : St} {H' : Hp} {s' : Shared}, Inv (X.blk s3 H3 scope ce fp) [] σ' H' s' → (∀ b ∈ fp, H' b = none) → ∀ b ∈ fp, FpOk (X.blk s3 H3 scope ce fp) [] H' b := fun {σ' H' s'} I' hn b hb =>
    ⟨hn b hb, (I'.ok.exf b hb).1, I'.ok.exfs b hb, .inl hb, fun x c e => (I'.ok.exf b hb).2 x c e, fun p hp => absurd (show p ∈ ([] : List (Addr × Obj)) ++ [] from hp) (by simp)⟩
  have b2 := bodyElt (B := X.blk s3 H3 scope ce fp) (D := D) rfl pe
  have b1 := bodyFor (elt := elt) (t0 := t0) (i0 := i0) (t1 := t1) (i1 := i1) (t2 := t2) (i2 := i2) (scope := scope) (pos := pos) (B := X.blk s3 H3 scope ce fp) (D := D) (c := 2) (vs := vs2) (.inr rfl) hc rfl pi2 pg2 b2 (fun _ z => nomatch z) (hs2 _) (fun it => ppTurn2 (elt := elt) (t0 := t0) (i0 := i0) (t1 := t1) (i1 := i1) (t2 := t2) (i2 := i2) (scope := scope) (pos := pos) it (.ref D) _)
  have b0 := bodyFor (elt := elt) (t0 := t0) (i0 := i0) (t1 := t1) (i1 := i1) (t2 := t2) (i2 := i2) (scope := scope) (pos := pos) (B := X.blk s3 H3 scope ce fp) (D := D) (c := 1) (vs := vs1) (.inl rfl) hc rfl pi1 pg1 b1 hv2 (hs1 _) (fun it => ppTurn1 (elt := elt) (t0 := t0) (i0 := i0) (t1 := t1) (i1 := i1) (t2 := t2) (i2 := i2) (scope := scope) (pos := pos) it (.ref D) _)
  have loop : codeAny (model X.prog X.w) X.A (.compLoop (.ListComp elt [⟨t0, i0, [], 0⟩, ⟨t1, i1, [], 0⟩, ⟨t2, i2, [], 0⟩] scope pos) 0 (.ref it) (.ref D) ce) (compPost (model X.prog X.w) X.A X.xe none (EP X pins σ Q) (.ref D) s3.heap.objs.size) s4 := by
    refine ppLoop (fun it => ppTurn0 it (.ref D) ce) (fun n s' => ∃ i H', Inv (X.blk s3 H3 scope ce fp) [] (wipe σ (own.map (·.2))) H' s' ∧ tn i s'.heap ∧ (∀ b ∈ fp, H' b = none) ∧ W i n H') ?_ m0 ⟨0, H3, I4, st4, nfp, w0⟩
    rintro n s5 ⟨i, H5, I5, st5, n5, w5⟩
    rcases turn i n H5 w5 with ⟨stop, qq⟩ | ⟨go, Nx, hNx, step⟩
    · have td := T.done (X.blk s3 H3 scope ce fp) rfl rfl rfl hc i [] s5 _ H5 (fun _ _ => False) I5 (stat I5 n5) st5 stop
      refine thnF td fun r s6 ⟨hr, I6⟩ => ?_
      subst hr
      have I7 : Inv X pins σ H5 s6 := I3.call' (ch := fp) I6.os I6.base I6.hok I6.bare fun b hb => ⟨(f3 b hb).1.2.2.2.1, (f3 b hb).1.2.1, (f3 b hb).1.2.2.2.2.1, (f3 b hb).1.2.2.2.2.2⟩
      have nC : H5 s3.heap.objs.size = none := by
        have z : H5 ce.locals = none := I6.free
        rw [cL] at z
        exact z
      obtain ⟨m, hn, _⟩ := I6.loc
      have hn : s6.heap.Ns ce.locals m := hn
      rw [cL] at hn
      refine ⟨m, hn, fun h'' sb => ?_⟩
      obtain ⟨g0, g1, g2, g3, g4, g5⟩ := I3.fpOk (Nat.le_refl _) nC
      exact ⟨.ref D, H5, I7.turned (t' := s6.toks) (fun b o hb e => (sb.2 b hb).trans e) g0 g1 g3 g4 g5, rfl, qq⟩
    · have ti := T.item (X.blk s3 H3 scope ce fp) rfl rfl rfl hc i [] s5 _ H5 (fun _ _ => False) I5 (stat I5 n5) st5 go
      refine thnF ti fun r s6 ⟨u, hr, h6⟩ => ?_
      subst hr
      refine thnF h6 fun _ s7 ⟨x, H7, I7, r7, y7, st7, n7⟩ => ?_
      have I7' := I7.pinned (stat I7 n7) (T.obj _ _ st7)
      refine thnF (pg.run _ s7 _ H7 x u _ I7' r7 (step x H7 y7)) fun _ s8 ⟨σ8, H8, I8, hw8, q8⟩ => ?_
      refine b0 _ s8 σ8 H8 Nx _ I8 q8 fun σ9 H9 s9 I9 hl9 hk9 nx9 => ?_
      obtain ⟨m', hm, w'⟩ := hNx H9 nx9
      have pin' : ∀ b ∈ fp, ∀ o, s7.heap.get? b = some o → s9.heap.get? b = some o ∧ H9 b = none := fun b hb o e =>
        let z := I9.pin (b, o) (List.mem_append_right _ (List.mem_append_right _ (mem_pinsAt hb e)))
        ⟨z.1, z.2.1⟩
      refine ⟨m', hm, i + 1, H9, (I9.unpinned (pins := [])).weak (by rw [hl9, ← hw8, wipe_length]) (fun j v e => ?_), T.keep _ _ _ st7 fun b hb o e => (pin' b hb o e).1, fun b hb => ?_, w'⟩
      · rw [← hw8] at e
        obtain ⟨e1, e2⟩ := wipe_some e
        exact hk9 j v (fun z => e2 (hv1 j z)) e1
      · obtain ⟨o, e, _⟩ := T.obj _ _ st7 b hb
        exact (pin' b hb o e).2
  exact codeAny_compStart_list loop (T.self X.A 0 _ _ _ st4 loop)
end
end L2
/-! ## 7. The text by places -/
namespace PP
open PySem L2
def top (i : Nat) : Stmt := PySem.Challenge.pw_packetpicture_k14_whole_bits_belong_to_o.main.body.getD i (.Pass ⟨0, 0, 0, 0⟩)
abbrev s_cs : Stmt := top 10
abbrev s_cz : Stmt := top 11
abbrev s_tc : Stmt := top 13
abbrev s_tz : Stmt := top 14
abbrev s_tp : Stmt := top 15
abbrev s_ak : Stmt := top 16
abbrev s_ck : Stmt := top 17
abbrev s_av : Stmt := top 19
abbrev s_ff : Stmt := top 21
abbrev s_gb : Stmt := top 23
abbrev s_vo : Stmt := top 24
abbrev s_sb : Stmt := top 25
abbrev s_pb : Stmt := top 26
abbrev s_st : Stmt := top 27
abbrev s_vs : Stmt := top 28
abbrev s_po : Stmt := top 29
abbrev s_lc : Stmt := top 31
abbrev s_lm : Stmt := top 32
abbrev s_ln : Stmt := top 33
abbrev s_lz : Stmt := top 34
abbrev s_lv : Stmt := top 35
abbrev s_lt : Stmt := top 36
abbrev s_lo : Stmt := top 37
abbrev s_lg : Stmt := top 38
abbrev s_ls : Stmt := top 39
abbrev s_lp : Stmt := top 40
abbrev s_lb : Stmt := top 41
abbrev s_ld : Stmt := top 42
abbrev s_lw : Stmt := top 43
abbrev s_fi : Stmt := inClass (top 12) 0
abbrev s_fa : Stmt := inClass (top 12) 1
abbrev s_fd : Stmt := inClass (top 12) 2
abbrev s_ft : Stmt := inClass (top 12) 3
abbrev s_fp : Stmt := inClass (top 12) 4
abbrev s_pi : Stmt := inClass (top 20) 0
abbrev s_pl : Stmt := inClass (top 20) 1
abbrev s_pr : Stmt := inClass (top 20) 3
abbrev s_pe : Stmt := inClass (top 20) 4
def d_cs : He.DefD := ⟨("check_shape", none), "check_shape", "check_shape", defArgs s_cs, defBody s_cs, defScope s_cs, [], []⟩
def d_cz : He.DefD := ⟨("check_size", none), "check_size", "check_size", defArgs s_cz, defBody s_cz, defScope s_cz, [], []⟩
def d_tc : He.DefD := ⟨("tile_corner", none), "tile_corner", "tile_corner", defArgs s_tc, defBody s_tc, defScope s_tc, [], []⟩
def d_tz : He.DefD := ⟨("tile_size", none), "tile_size", "tile_size", defArgs s_tz, defBody s_tz, defScope s_tz, [], []⟩
def d_tp : He.DefD := ⟨("tile_pixels", none), "tile_pixels", "tile_pixels", defArgs s_tp, defBody s_tp, defScope s_tp, [], []⟩
def d_ak : He.DefD := ⟨("all_keys", none), "all_keys", "all_keys", defArgs s_ak, defBody s_ak, defScope s_ak, [], []⟩
def d_ck : He.DefD := ⟨("check_key", none), "check_key", "check_key", defArgs s_ck, defBody s_ck, defScope s_ck, [], []⟩
def d_av : He.DefD := ⟨("_are_values", none), "_are_values", "_are_values", defArgs s_av, defBody s_av, defScope s_av, [], []⟩
def d_ff : He.DefD := ⟨("fits_frame", none), "fits_frame", "fits_frame", defArgs s_ff, defBody s_ff, defScope s_ff, [], []⟩
def d_gb : He.DefD := ⟨("gray_bit", none), "gray_bit", "gray_bit", defArgs s_gb, defBody s_gb, defScope s_gb, [], []⟩
def d_vo : He.DefD := ⟨("value_of", none), "value_of", "value_of", defArgs s_vo, defBody s_vo, defScope s_vo, [], []⟩
def d_sb : He.DefD := ⟨("stored_bit", none), "stored_bit", "stored_bit", defArgs s_sb, defBody s_sb, defScope s_sb, [], []⟩
def d_pb : He.DefD := ⟨("packet_bits", none), "packet_bits", "packet_bits", defArgs s_pb, defBody s_pb, defScope s_pb, [], []⟩
def d_st : He.DefD := ⟨("_stored", none), "_stored", "_stored", defArgs s_st, defBody s_st, defScope s_st, [], []⟩
def d_vs : He.DefD := ⟨("_values", none), "_values", "_values", defArgs s_vs, defBody s_vs, defScope s_vs, [], []⟩
def d_po : He.DefD := ⟨("picture_of", none), "picture_of", "picture_of", defArgs s_po, defBody s_po, defScope s_po, [], []⟩
def d_lc : He.DefD := ⟨("_law_cell", none), "_law_cell", "_law_cell", defArgs s_lc, defBody s_lc, defScope s_lc, [], []⟩
def d_lm : He.DefD := ⟨("_law_mixed", none), "_law_mixed", "_law_mixed", defArgs s_lm, defBody s_lm, defScope s_lm, [], []⟩
def d_ln : He.DefD := ⟨("_law_numbers", none), "_law_numbers", "_law_numbers", defArgs s_ln, defBody s_ln, defScope s_ln, [], []⟩
def d_lz : He.DefD := ⟨("_law_sizes", none), "_law_sizes", "_law_sizes", defArgs s_lz, defBody s_lz, defScope s_lz, [], []⟩
def d_lv : He.DefD := ⟨("_law_values", none), "_law_values", "_law_values", defArgs s_lv, defBody s_lv, defScope s_lv, [], []⟩
def d_lt : He.DefD := ⟨("_law_tiles", none), "_law_tiles", "_law_tiles", defArgs s_lt, defBody s_lt, defScope s_lt, [], []⟩
def d_lo : He.DefD := ⟨("_law_order", none), "_law_order", "_law_order", defArgs s_lo, defBody s_lo, defScope s_lo, [], []⟩
def d_lg : He.DefD := ⟨("_law_gray", none), "_law_gray", "_law_gray", defArgs s_lg, defBody s_lg, defScope s_lg, [], []⟩
def d_ls : He.DefD := ⟨("_law_stored", none), "_law_stored", "_law_stored", defArgs s_ls, defBody s_ls, defScope s_ls, [], []⟩
def d_lp : He.DefD := ⟨("_law_pixels", none), "_law_pixels", "_law_pixels", defArgs s_lp, defBody s_lp, defScope s_lp, [], []⟩
def d_lb : He.DefD := ⟨("_law_bits", none), "_law_bits", "_law_bits", defArgs s_lb, defBody s_lb, defScope s_lb, [], []⟩
def d_ld : He.DefD := ⟨("_law_drawn", none), "_law_drawn", "_law_drawn", defArgs s_ld, defBody s_ld, defScope s_ld, [], []⟩
def d_lw : He.DefD := ⟨("law", none), "law", "law", defArgs s_lw, defBody s_lw, defScope s_lw, [], []⟩
def d_fi : He.DefD := ⟨("Frame", some "__init__"), "__init__", "Frame.__init__", defArgs s_fi, defBody s_fi, defScope s_fi, [], []⟩
def d_fa : He.DefD := ⟨("Frame", some "across"), "across", "Frame.across", defArgs s_fa, defBody s_fa, defScope s_fa, [], []⟩
def d_fd : He.DefD := ⟨("Frame", some "down"), "down", "Frame.down", defArgs s_fd, defBody s_fd, defScope s_fd, [], []⟩
def d_ft : He.DefD := ⟨("Frame", some "tiles"), "tiles", "Frame.tiles", defArgs s_ft, defBody s_ft, defScope s_ft, [], []⟩
def d_fp : He.DefD := ⟨("Frame", some "pixels"), "pixels", "Frame.pixels", defArgs s_fp, defBody s_fp, defScope s_fp, [], []⟩
def d_pi : He.DefD := ⟨("Picture", some "__init__"), "__init__", "Picture.__init__", defArgs s_pi, defBody s_pi, defScope s_pi, [], []⟩
def d_pl : He.DefD := ⟨("Picture", some "value"), "value", "Picture.value", defArgs s_pl, defBody s_pl, defScope s_pl, [], []⟩
def d_pr : He.DefD := ⟨("Picture", some "rows"), "rows", "Picture.rows", defArgs s_pr, defBody s_pr, defScope s_pr, [], []⟩
def d_pe : He.DefD := ⟨("Picture", some "same"), "same", "Picture.same", defArgs s_pe, defBody s_pe, defScope s_pe, [], []⟩
def fn : List He.DefD := [d_cs, d_cz, d_tc, d_tz, d_tp, d_ak, d_ck, d_av, d_ff, d_gb, d_vo, d_sb, d_pb, d_st, d_vs, d_po, d_lc, d_lm, d_ln, d_lz, d_lv, d_lt, d_lo, d_lg, d_ls, d_lp, d_lb, d_ld, d_lw, d_fi, d_fa, d_fd, d_ft, d_fp, d_pi, d_pl, d_pr, d_pe]
def fa1 : List He.Fa := [.glo "check_shape", .glo "check_size", .glo "tile_corner", .glo "tile_size", .glo "tile_pixels", .glo "all_keys", .glo "check_key", .glo "_are_values", .glo "fits_frame", .glo "gray_bit", .glo "value_of", .glo "stored_bit", .glo "packet_bits", .glo "_stored", .glo "_values", .glo "picture_of", .glo "_law_cell", .glo "_law_mixed", .glo "_law_numbers", .glo "_law_sizes", .glo "_law_values", .glo "_law_tiles", .glo "_law_order", .glo "_law_gray", .glo "_law_stored", .glo "_law_pixels", .glo "_law_bits", .glo "_law_drawn", .glo "law", .glo "Frame", .glo "Picture", .int "SIDE_MOST" 64]
def fa2 : List He.Fa := [.int "VALUES_MOST" 3072, .int "DEPTH_MOST" 8, .int "TILE_MOST" 16, .free "len", .free "min", .free "range", .free "divmod", .free "list", .free "reversed", .free "zip", .free "abs", .free "int", .free "sum", .cls "Frame", .cls "Picture", .noat "Frame" "width", .noat "Frame" "height", .noat "Frame" "depth", .noat "Frame" "channels", .noat "Frame" "tile", .noat "Picture" "width", .noat "Picture" "height", .noat "Picture" "depth", .noat "Picture" "channels", .noat "Picture" "_rows", .mkr "Frame", .mkr "Picture", .meth "Frame" "across", .meth "Frame" "down", .meth "Frame" "tiles", .meth "Frame" "pixels", .meth "Picture" "value", .meth "Picture" "rows", .meth "Picture" "same"]
def fa : List He.Fa := fa1 ++ fa2
end PP
/-! ## 8. What stands in the heap, and the promise of each def -/
namespace PP
open PySem PySem.Spec PyProof.Rows L2
abbrev nI (n : Nat) : V := .int (n : Int)
abbrev bV (b : Bool) : V := nI b.toNat
abbrev intsV (ns : List Nat) : List V := ns.map nI
abbrev bitsV (bs : List Bool) : List V := bs.map bV
abbrev CF (K : PySem.W.Frag) : Addr := He.ga K "Frame"
abbrev CP (K : PySem.W.Frag) : Addr := He.ga K "Picture"
def fsF (F : Fr) : List (Str × V) := [("width", nI F.w), ("height", nI F.h), ("depth", nI F.d), ("channels", nI F.c), ("tile", nI F.t)]
def fsP (F : Fr) (q : Addr) : List (Str × V) := [("width", nI F.w), ("height", nI F.h), ("depth", nI F.d), ("channels", nI F.c), ("_rows", .ref q)]
def FrA (K : PySem.W.Frag) (H : Hp) (p : Addr) (F : Fr) : Prop := ∃ dx, H p = some (.ins (CF K) dx (fsF F))
def RowsA (H : Hp) (q : Addr) (rs : List (List Nat)) : Prop := ∃ ps : List Addr, H q = some (.lst (ps.map V.ref)) ∧ Paired (fun a r => H a = some (.lst (intsV r))) ps rs
def rowsOf (F : Fr) (R : Nat → Nat → Nat) : List (List Nat) := (List.range F.c).map fun ch => (List.range F.np).map (R ch)
def PicA (K : PySem.W.Frag) (H : Hp) (p : Addr) (F : Fr) (R : Nat → Nat → Nat) : Prop := ∃ dx q, H p = some (.ins (CP K) dx (fsP F q)) ∧ RowsA H q (rowsOf F R)
def kk (k : Ky) : List Key := [.inl (k.ch : Int), .inl (k.tl : Int), .inl (k.pl : Int)]
def kt (k : Ky) : List V := [nI k.ch, nI k.tl, nI k.pl]
theorem kt_eq (k : Ky) : (kk k).map kV = kt k := rfl
def cp (a b : Nat) : List Key := [.inl (a : Int), .inl (b : Int)]
def txt (bs : List Bool) : Str := ⟨(bs.map fun b => if b then 49 else 48).toArray⟩
def DicA (H : Hp) (d : Addr) (F : Fr) (P : Ky → List Bool) : Prop := ∃ kvs, H d = some (.dT kvs) ∧ ∀ k, F.keyOk k → valV kvs (kk k) = some (.str (txt (P k)))
def TabA (H : Hp) (t : Addr) (F : Fr) (S : Nat → Nat → Nat → Bool) : Prop := ∃ kvs, H t = some (.dT kvs) ∧ ∀ ch pl, ch < F.c → pl < F.d → ∃ a, valV kvs (cp ch pl) = some (.ref a) ∧ H a = some (.lst ((List.range F.np).map fun p => bV (S ch pl p)))
def KeysA (H : Hp) (a : Addr) (ks : List Ky) : Prop := ∃ bs : List Addr, H a = some (.lst (bs.map V.ref)) ∧ Paired (fun b k => H b = some (.tup (kt k))) bs ks
def szV (F : Fr) : List V := [nI F.w, nI F.h, nI F.d, nI F.c, nI F.t]
theorem FrA.same {K : PySem.W.Frag} {H H' : Hp} {p : Addr} {F : Fr} (h : FrA K H p F) (s : Same H H') : FrA K H' p F := let ⟨dx, e⟩ := h; ⟨dx, s _ _ e⟩
theorem RowsA.same {H H' : Hp} {q : Addr} {rs : List (List Nat)} (h : RowsA H q rs) (s : Same H H') : RowsA H' q rs := let ⟨ps, e, r⟩ := h; ⟨ps, s _ _ e, Paired.mapP r fun _ _ z => s _ _ z⟩
theorem PicA.same {K : PySem.W.Frag} {H H' : Hp} {p : Addr} {F : Fr} {R : Nat → Nat → Nat} (h : PicA K H p F R) (s : Same H H') : PicA K H' p F R := let ⟨dx, q, e, r⟩ := h; ⟨dx, q, s _ _ e, r.same s⟩
theorem DicA.same {H H' : Hp} {d : Addr} {F : Fr} {P : Ky → List Bool} (h : DicA H d F P) (s : Same H H') : DicA H' d F P := let ⟨kvs, e, r⟩ := h; ⟨kvs, s _ _ e, r⟩
theorem TabA.same {H H' : Hp} {t : Addr} {F : Fr} {S : Nat → Nat → Nat → Bool} (h : TabA H t F S) (s : Same H H') : TabA H' t F S :=
  let ⟨kvs, e, r⟩ := h; ⟨kvs, s _ _ e, fun ch pl h1 h2 => let ⟨a, e1, e2⟩ := r ch pl h1 h2; ⟨a, e1, s _ _ e2⟩⟩
theorem KeysA.same {H H' : Hp} {a : Addr} {ks : List Ky} (h : KeysA H a ks) (s : Same H H') : KeysA H' a ks := let ⟨bs, e, r⟩ := h; ⟨bs, s _ _ e, Paired.mapP r fun _ _ z => s _ _ z⟩
/-- a new object leaves what was as it was -/
theorem Same.new {H : Hp} {p : Addr} {o : HO} (h : H p = none) : Same H (upd H p o) := fun b u e => by
  rw [upd_ne (ne_of_none e h)]
  exact e
/-- a store at an address that was free at first -/
theorem Same.put {H0 H : Hp} {p : Addr} {o : HO} (s : Same H0 H) (h : H0 p = none) : Same H0 (upd H p o) := fun b u e => by
  rw [upd_ne (ne_of_none e h)]
  exact s _ _ e
/-! ### fields -/
theorem lk_hit {k : Str} {v : V} {r : List (Str × V)} : List.lookup k ((k, v) :: r) = some v := by simp [List.lookup]
theorem lk_miss {x k : Str} {v : V} {r : List (Str × V)} (h : ¬ x = k) : List.lookup x ((k, v) :: r) = r.lookup x := by
  have e : (x == k) = false := beq_eq_false_iff_ne.mpr h
  simp only [List.lookup, e]
theorem pf_hit {k : Str} {u v : V} {r : List (Str × V)} : putF k v ((k, u) :: r) = (k, v) :: r := by
  show (if k = k then _ else _) = _
  rw [if_pos rfl]
theorem pf_miss {x k : Str} {u v : V} {r : List (Str × V)} (h : ¬ k = x) : putF x v ((k, u) :: r) = (k, u) :: putF x v r := by
  show (if k = x then _ else _) = _
  rw [if_neg h]
theorem ne_wh : ¬ ("width" : Str) = "height" := by decide +kernel
theorem ne_wd : ¬ ("width" : Str) = "depth" := by decide +kernel
theorem ne_wc : ¬ ("width" : Str) = "channels" := by decide +kernel
theorem ne_wt : ¬ ("width" : Str) = "tile" := by decide +kernel
theorem ne_wr : ¬ ("width" : Str) = "_rows" := by decide +kernel
theorem ne_hd : ¬ ("height" : Str) = "depth" := by decide +kernel
theorem ne_hc : ¬ ("height" : Str) = "channels" := by decide +kernel
theorem ne_ht : ¬ ("height" : Str) = "tile" := by decide +kernel
theorem ne_hr : ¬ ("height" : Str) = "_rows" := by decide +kernel
theorem ne_dc : ¬ ("depth" : Str) = "channels" := by decide +kernel
theorem ne_dt : ¬ ("depth" : Str) = "tile" := by decide +kernel
theorem ne_dr : ¬ ("depth" : Str) = "_rows" := by decide +kernel
theorem ne_ct : ¬ ("channels" : Str) = "tile" := by decide +kernel
theorem ne_cr : ¬ ("channels" : Str) = "_rows" := by decide +kernel
theorem fF_w (F : Fr) : (fsF F).lookup ("width" : Str) = some (nI F.w) := lk_hit
theorem fF_h (F : Fr) : (fsF F).lookup ("height" : Str) = some (nI F.h) := (lk_miss (Ne.symm ne_wh)).trans lk_hit
theorem fF_d (F : Fr) : (fsF F).lookup ("depth" : Str) = some (nI F.d) := (lk_miss (Ne.symm ne_wd)).trans ((lk_miss (Ne.symm ne_hd)).trans lk_hit)
theorem fF_c (F : Fr) : (fsF F).lookup ("channels" : Str) = some (nI F.c) := (lk_miss (Ne.symm ne_wc)).trans ((lk_miss (Ne.symm ne_hc)).trans ((lk_miss (Ne.symm ne_dc)).trans lk_hit))
theorem fF_t (F : Fr) : (fsF F).lookup ("tile" : Str) = some (nI F.t) := (lk_miss (Ne.symm ne_wt)).trans ((lk_miss (Ne.symm ne_ht)).trans ((lk_miss (Ne.symm ne_dt)).trans ((lk_miss (Ne.symm ne_ct)).trans lk_hit)))
theorem fP_w (F : Fr) (q : Addr) : (fsP F q).lookup ("width" : Str) = some (nI F.w) := lk_hit
theorem fP_h (F : Fr) (q : Addr) : (fsP F q).lookup ("height" : Str) = some (nI F.h) := (lk_miss (Ne.symm ne_wh)).trans lk_hit
theorem fP_d (F : Fr) (q : Addr) : (fsP F q).lookup ("depth" : Str) = some (nI F.d) := (lk_miss (Ne.symm ne_wd)).trans ((lk_miss (Ne.symm ne_hd)).trans lk_hit)
theorem fP_c (F : Fr) (q : Addr) : (fsP F q).lookup ("channels" : Str) = some (nI F.c) := (lk_miss (Ne.symm ne_wc)).trans ((lk_miss (Ne.symm ne_hc)).trans ((lk_miss (Ne.symm ne_dc)).trans lk_hit))
theorem fP_r (F : Fr) (q : Addr) : (fsP F q).lookup ("_rows" : Str) = some (.ref q) := (lk_miss (Ne.symm ne_wr)).trans ((lk_miss (Ne.symm ne_hr)).trans ((lk_miss (Ne.symm ne_dr)).trans ((lk_miss (Ne.symm ne_cr)).trans lk_hit)))
theorem fF_no (F : Fr) {m : Str} (h1 : ¬ m = "width") (h2 : ¬ m = "height") (h3 : ¬ m = "depth") (h4 : ¬ m = "channels") (h5 : ¬ m = "tile") : (fsF F).lookup m = none :=
  (lk_miss h1).trans ((lk_miss h2).trans ((lk_miss h3).trans ((lk_miss h4).trans ((lk_miss h5).trans rfl))))
theorem fP_no (F : Fr) (q : Addr) {m : Str} (h1 : ¬ m = "width") (h2 : ¬ m = "height") (h3 : ¬ m = "depth") (h4 : ¬ m = "channels") (h5 : ¬ m = "_rows") : (fsP F q).lookup m = none :=
  (lk_miss h1).trans ((lk_miss h2).trans ((lk_miss h3).trans ((lk_miss h4).trans ((lk_miss h5).trans rfl))))
theorem fF_put (F : Fr) : putF "tile" (nI F.t) (putF "channels" (nI F.c) (putF "depth" (nI F.d) (putF "height" (nI F.h) (putF "width" (nI F.w) [])))) = fsF F := by
  show putF "tile" (nI F.t) (putF "channels" (nI F.c) (putF "depth" (nI F.d) (putF "height" (nI F.h) [("width", nI F.w)]))) = _
  rw [pf_miss ne_wh, pf_miss ne_wd]
  show putF "tile" (nI F.t) (putF "channels" (nI F.c) (("width", nI F.w) :: putF "depth" (nI F.d) [("height", nI F.h)])) = _
  rw [pf_miss ne_hd, pf_miss ne_wc, pf_miss ne_hc]
  show putF "tile" (nI F.t) (("width", nI F.w) :: ("height", nI F.h) :: putF "channels" (nI F.c) [("depth", nI F.d)]) = _
  rw [pf_miss ne_dc, pf_miss ne_wt, pf_miss ne_ht, pf_miss ne_dt]
  show (("width" : Str), nI F.w) :: (("height" : Str), nI F.h) :: (("depth" : Str), nI F.d) :: putF "tile" (nI F.t) [("channels", nI F.c)] = _
  rw [pf_miss ne_ct]
  rfl
theorem fP_put (F : Fr) (q : Addr) : putF "_rows" (.ref q) (putF "channels" (nI F.c) (putF "depth" (nI F.d) (putF "height" (nI F.h) (putF "width" (nI F.w) [])))) = fsP F q := by
  show putF "_rows" (.ref q) (putF "channels" (nI F.c) (putF "depth" (nI F.d) (putF "height" (nI F.h) [("width", nI F.w)]))) = _
  rw [pf_miss ne_wh, pf_miss ne_wd]
  show putF "_rows" (.ref q) (putF "channels" (nI F.c) (("width", nI F.w) :: putF "depth" (nI F.d) [("height", nI F.h)])) = _
  rw [pf_miss ne_hd, pf_miss ne_wc, pf_miss ne_hc]
  show putF "_rows" (.ref q) (("width", nI F.w) :: ("height", nI F.h) :: putF "channels" (nI F.c) [("depth", nI F.d)]) = _
  rw [pf_miss ne_dc, pf_miss ne_wr, pf_miss ne_hr, pf_miss ne_dr]
  show (("width" : Str), nI F.w) :: (("height" : Str), nI F.h) :: (("depth" : Str), nI F.d) :: putF "_rows" (.ref q) [("channels", nI F.c)] = _
  rw [pf_miss ne_cr]
  rfl
theorem putF_len (f : Str) (v : V) : ∀ l : List (Str × V), (putF f v l).length ≤ l.length + 1
  | [] => Nat.le_refl _
  | (g, x) :: r => by
    show (if g = f then _ else _ : List (Str × V)).length ≤ _
    split
    · exact Nat.le_succ _
    · exact Nat.succ_le_succ (putF_len f v r)
/-! ### facts of the text -/
structure Txt (K : PySem.W.Frag) (mg : Str → Option Value) : Prop where
  clF : Cls K (CF K)
  clP : Cls K (CP K)
  nFw : NoAttr K (CF K) "width"
  nFh : NoAttr K (CF K) "height"
  nFd : NoAttr K (CF K) "depth"
  nFc : NoAttr K (CF K) "channels"
  nFt : NoAttr K (CF K) "tile"
  nPw : NoAttr K (CP K) "width"
  nPh : NoAttr K (CP K) "height"
  nPd : NoAttr K (CP K) "depth"
  nPc : NoAttr K (CP K) "channels"
  nPr : NoAttr K (CP K) "_rows"
  iS : ∃ t, mg "SIDE_MOST" = some (.int 64 t)
  iV : ∃ t, mg "VALUES_MOST" = some (.int 3072 t)
  iD : ∃ t, mg "DEPTH_MOST" = some (.int 8 t)
  iT : ∃ t, mg "TILE_MOST" = some (.int 16 t)
  len : mg "len" = none
  min : mg "min" = none
  range : mg "range" = none
  divmod : mg "divmod" = none
  list : mg "list" = none
  reversed : mg "reversed" = none
  zip : mg "zip" = none
  abs : mg "abs" = none
  int : mg "int" = none
  sum : mg "sum" = none
/-! ### rules in short -/
theorem iteD {p : Prop} [Decidable p] {A B : Prop} (h : p) (a : A) : if decide p = true then A else B := by
  rw [decide_eq_true h]
  exact iteT a
theorem iteDn {p : Prop} [Decidable p] {A B : Prop} (h : ¬ p) (b : B) : if decide p = true then A else B := by
  rw [decide_eq_false h]
  exact iteF b
theorem iteNY {p : Prop} [Decidable p] {A B : Prop} (h : ¬ p) (a : A) : if (!decide p) = true then A else B := by
  rw [decide_eq_false h]
  exact iteT a
theorem PE.imp {X : Cx} {e : Expr} {t t' : TE} (h : PE X e t) (m : ∀ σ H Q, t' σ H Q → t σ H Q) : PE X e t' := ⟨fun pins s σ H Q I hw => h.run pins s σ H Q I (m σ H Q hw)⟩
theorem PT.imp {X : Cx} {e : Expr} {t t' : TT} (h : PT X e t) (m : ∀ σ H Q, t' σ H Q → t σ H Q) : PT X e t' := ⟨fun pins s σ H Q I hw => h.run pins s σ H Q I (m σ H Q hw)⟩
/-- a def of the module and its promise -/
def Dfn (P : Program) (w : World) (K : PySem.W.Frag) (mg : Str → Option Value) (base : Heap) (k : Nat) (x : Str) (ps : List Str) (sp : Sp) : Prop :=
  ∃ f fd, FnOk P w K mg base CX0 k f fd ps sp ∧ Binds K fd ps [] ∧ PySem.W.keepIn K (.ref f) = true ∧ mg x = some (.ref f)
/-- a method and its promise -/
def Mth (P : Program) (w : World) (K : PySem.W.Frag) (mg : Str → Option Value) (base : Heap) (k : Nat) (C : Addr) (m : Str) (ps : List Str) (sp : Sp) : Prop :=
  ∃ f fd, FnOk P w K mg base CX0 k f fd ps sp ∧ Binds K fd ps [] ∧ Meth K C m f
/-- a class that is made by its __init__ -/
def Mkr (P : Program) (w : World) (K : PySem.W.Frag) (mg : Str → Option Value) (base : Heap) (k : Nat) (C : Addr) (x : Str) (ps : List Str) (sp : Sp) : Prop :=
  ∃ f fd, FnOk P w K mg base CX0 k f fd ps sp ∧ Binds K fd ps [] ∧ Mk K C f ∧ mg x = some (.ref C)
section
variable {X : Cx} {k j : Nat} {x m : Str} {C : Addr} {ps : List Str} {sp : Sp} {e o : Expr} {es : List Expr} {p pos apos : Pos} {t : TA} {ta : TE}
theorem pe_fn (D : Dfn X.prog X.w X.K X.mg X.base k x ps sp) (hr : Room j X.A) (ha : PA X (e :: es) t) (hkj : k ≤ j := by decide) (hg : Gl X x := by rfl) (hdb : (x == ("__debug__" : Str)) = false := by decide)
    (he : starEach (e :: es) X.env = (false, eval e X.env) :: starEach es X.env := by rfl) (hpl : (backTo pos (starEach es X.env)).any (·.1) = false := by rfl) : PE X (.Call (.Name x p) (e :: es) [] pos) (tCall sp [] E0 t) := by
  obtain ⟨f, fd, F, b, kp, hm⟩ := D
  exact pe_call F (hr.mono hkj) hg hm kp b .nil pass0 ha hdb he hpl
theorem pe_mt {pl : Sem Bool} (D : Mth X.prog X.w X.K X.mg X.base k C m ps sp) (c : Cls X.K C) (hr : Room j X.A) (ho : PE X o ta) (ha : PA X (e :: es) t) (hkj : k ≤ j := by decide)
    (hst : starEach (e :: es) X.env = (false, eval e X.env) :: starEach es X.env := by rfl) (hpl : (backTo pos (starEach es X.env)).any (·.1) = false := by rfl)
    (ht : eval (.Call (.Attribute o m apos) (e :: es) [] pos) X.env = (do
      let ov ← eval o X.env
      standAt apos.atName
      let (f, first) ← holding [ov] (getMethod ov m pl)
      callWith pos f first (backTo pos (starEach (e :: es) X.env)) (backToKw pos (keywordEach [] X.env))) := by rfl) : PE X (.Call (.Attribute o m apos) (e :: es) [] pos) (tMeth C m sp [] E0 ta t) := by
  obtain ⟨f, fd, F, b, hm⟩ := D
  exact pe_meth ho c hm F (hr.mono hkj) b .nil pass0 ha hst hpl ht
theorem pe_mt0 {pl : Sem Bool} (D : Mth X.prog X.w X.K X.mg X.base k C m ps sp) (c : Cls X.K C) (hr : Room j X.A) (ho : PE X o ta) (hkj : k ≤ j := by decide)
    (ht : eval (.Call (.Attribute o m apos) [] [] pos) X.env = (do
      let ov ← eval o X.env
      standAt apos.atName
      let (f, first) ← holding [ov] (getMethod ov m pl)
      callWith pos f first (backTo pos (starEach [] X.env)) (backToKw pos (keywordEach [] X.env))) := by rfl) : PE X (.Call (.Attribute o m apos) [] [] pos) (tMeth C m sp [] E0 ta tNil) := by
  obtain ⟨f, fd, F, b, hm⟩ := D
  exact pe_meth0 ho c hm F (hr.mono hkj) b .nil pass0 ht
theorem pe_mk (D : Mkr X.prog X.w X.K X.mg X.base k C x ps sp) (hr : Room j X.A) (ha : PA X (e :: es) t) (hkj : k + 1 ≤ j := by decide) (hg : Gl X x := by rfl) (hdb : (x == ("__debug__" : Str)) = false := by decide)
    (he : starEach (e :: es) X.env = (false, eval e X.env) :: starEach es X.env := by rfl) (hpl : (backTo pos (starEach es X.env)).any (·.1) = false := by rfl) : PE X (.Call (.Name x p) (e :: es) [] pos) (tMake C sp [] E0 t) := by
  obtain ⟨f, fd, F, b, M, hm⟩ := D
  exact pe_make M F (hr.mono hkj) hg hm b .nil pass0 ha hdb he hpl
/-- a module's whole number -/
theorem pe_gi {i : Int} {t : Tok} (hm : X.mg x = some (.int i t)) (hg : Gl X x := by rfl) (hd : (x == ("__debug__" : Str)) = false := by decide) : PE X (.Name x pos) (tC (.int i)) := pe_glob hg hm ⟨t, rfl⟩ hd
/-- a field of a frame -/
def tFF (K : PySem.W.Frag) (te : TE) (g : Fr → Nat) : TE := fun σ H Q => te σ H fun x H1 => ∃ p F, x = .ref p ∧ FrA K H1 p F ∧ Q (nI (g F)) H1
def tPF (K : PySem.W.Frag) (te : TE) (g : Fr → Nat) : TE := fun σ H Q => te σ H fun x H1 => ∃ p F q dx, x = .ref p ∧ H1 p = some (.ins (CP K) dx (fsP F q)) ∧ Q (nI (g F)) H1
def tPR (K : PySem.W.Frag) (te : TE) : TE := fun σ H Q => te σ H fun x H1 => ∃ p F q dx, x = .ref p ∧ H1 p = some (.ins (CP K) dx (fsP F q)) ∧ Q (.ref q) H1
theorem tmono {te : TE} {pos : Pos} (he : PE X e te) {f : Str} {R : V → Hp → VK → Prop} (hb : attributeBase e f X.env (eval e X.env) = eval e X.env) (h : ∀ y H Q, R y H Q → ∃ a C dx fs v, y = .ref a ∧ H a = some (.ins C dx fs) ∧ Cls X.K C ∧ NoAttr X.K C f ∧ fs.lookup f = some v ∧ Q v H) :
    PE X (.Attribute e f pos) (fun σ H Q => te σ H fun y H1 => R y H1 Q) := by
  have r := pe_fld (pos := pos) (f := f) (PE.imp (t' := fun σ H Q => ∃ R' : VK, te σ H R' ∧ ∀ y H1, R' y H1 → Q y H1) ⟨fun pins s σ H Q I ⟨R', h1, h2⟩ => thn (he.run pins s σ H R' I h1) fun v s1 ⟨y, H1, I1, r1, q1⟩ => ⟨y, H1, I1, r1, h2 y H1 q1⟩⟩ fun _ _ _ z => z) hb
  exact PE.imp r fun σ H Q z => ⟨_, z, fun y H1 q => h y H1 Q q⟩
end
section
variable {X : Cx} {e : Expr} {te : TE} {pos : Pos} {K : PySem.W.Frag} {mg : Str → Option Value}
theorem pe_fw (T : Txt K mg) (he : PE X e te) (hK : X.K = K := by rfl) (hb : attributeBase e "width" X.env (eval e X.env) = eval e X.env := by rfl) : PE X (.Attribute e "width" pos) (tFF K te Fr.w) := by
  subst hK
  exact tmono he hb fun y H Q ⟨p, F, ey, ⟨dx, eh⟩, q⟩ => ⟨p, _, dx, _, _, ey, eh, T.clF, T.nFw, fF_w F, q⟩
theorem pe_fh (T : Txt K mg) (he : PE X e te) (hK : X.K = K := by rfl) (hb : attributeBase e "height" X.env (eval e X.env) = eval e X.env := by rfl) : PE X (.Attribute e "height" pos) (tFF K te Fr.h) := by
  subst hK
  exact tmono he hb fun y H Q ⟨p, F, ey, ⟨dx, eh⟩, q⟩ => ⟨p, _, dx, _, _, ey, eh, T.clF, T.nFh, fF_h F, q⟩
theorem pe_fd (T : Txt K mg) (he : PE X e te) (hK : X.K = K := by rfl) (hb : attributeBase e "depth" X.env (eval e X.env) = eval e X.env := by rfl) : PE X (.Attribute e "depth" pos) (tFF K te Fr.d) := by
  subst hK
  exact tmono he hb fun y H Q ⟨p, F, ey, ⟨dx, eh⟩, q⟩ => ⟨p, _, dx, _, _, ey, eh, T.clF, T.nFd, fF_d F, q⟩
theorem pe_fc (T : Txt K mg) (he : PE X e te) (hK : X.K = K := by rfl) (hb : attributeBase e "channels" X.env (eval e X.env) = eval e X.env := by rfl) : PE X (.Attribute e "channels" pos) (tFF K te Fr.c) := by
  subst hK
  exact tmono he hb fun y H Q ⟨p, F, ey, ⟨dx, eh⟩, q⟩ => ⟨p, _, dx, _, _, ey, eh, T.clF, T.nFc, fF_c F, q⟩
theorem pe_ft (T : Txt K mg) (he : PE X e te) (hK : X.K = K := by rfl) (hb : attributeBase e "tile" X.env (eval e X.env) = eval e X.env := by rfl) : PE X (.Attribute e "tile" pos) (tFF K te Fr.t) := by
  subst hK
  exact tmono he hb fun y H Q ⟨p, F, ey, ⟨dx, eh⟩, q⟩ => ⟨p, _, dx, _, _, ey, eh, T.clF, T.nFt, fF_t F, q⟩
theorem pe_pw (T : Txt K mg) (he : PE X e te) (hK : X.K = K := by rfl) (hb : attributeBase e "width" X.env (eval e X.env) = eval e X.env := by rfl) : PE X (.Attribute e "width" pos) (tPF K te Fr.w) := by
  subst hK
  exact tmono he hb fun y H Q ⟨p, F, r, dx, ey, eh, q⟩ => ⟨p, _, dx, _, _, ey, eh, T.clP, T.nPw, fP_w F r, q⟩
theorem pe_ph (T : Txt K mg) (he : PE X e te) (hK : X.K = K := by rfl) (hb : attributeBase e "height" X.env (eval e X.env) = eval e X.env := by rfl) : PE X (.Attribute e "height" pos) (tPF K te Fr.h) := by
  subst hK
  exact tmono he hb fun y H Q ⟨p, F, r, dx, ey, eh, q⟩ => ⟨p, _, dx, _, _, ey, eh, T.clP, T.nPh, fP_h F r, q⟩
theorem pe_pd (T : Txt K mg) (he : PE X e te) (hK : X.K = K := by rfl) (hb : attributeBase e "depth" X.env (eval e X.env) = eval e X.env := by rfl) : PE X (.Attribute e "depth" pos) (tPF K te Fr.d) := by
  subst hK
  exact tmono he hb fun y H Q ⟨p, F, r, dx, ey, eh, q⟩ => ⟨p, _, dx, _, _, ey, eh, T.clP, T.nPd, fP_d F r, q⟩
theorem pe_pc (T : Txt K mg) (he : PE X e te) (hK : X.K = K := by rfl) (hb : attributeBase e "channels" X.env (eval e X.env) = eval e X.env := by rfl) : PE X (.Attribute e "channels" pos) (tPF K te Fr.c) := by
  subst hK
  exact tmono he hb fun y H Q ⟨p, F, r, dx, ey, eh, q⟩ => ⟨p, _, dx, _, _, ey, eh, T.clP, T.nPc, fP_c F r, q⟩
theorem pe_pr (T : Txt K mg) (he : PE X e te) (hK : X.K = K := by rfl) (hb : attributeBase e "_rows" X.env (eval e X.env) = eval e X.env := by rfl) : PE X (.Attribute e "_rows" pos) (tPR K te) := by
  subst hK
  exact tmono he hb fun y H Q ⟨p, F, r, dx, ey, eh, q⟩ => ⟨p, _, dx, _, _, ey, eh, T.clP, T.nPr, fP_r F r, q⟩
/-- an item of a list, K told -/
theorem ix_lst (K : PySem.W.Frag) (hK : X.K = K := by rfl) : IxR X (rIxL K) := by
  subst hK
  exact ix_list
/-- a tracked list's item by its place -/
def rIxN : R2 := fun x y H Q => ∃ (p : Addr) (xs : List V) (i : Nat) (v : V), x = .ref p ∧ y = nI i ∧ H p = some (.lst xs) ∧ xs[i]? = some v ∧ Q v H
theorem ix_N : IxR X rIxN := by
  intro a b pins s σ H x y v u Q I rx ry h
  obtain ⟨p, xs, i, z, e1, e2, hp, hi, q⟩ := h
  exact ix_list (X := X) a b pins s σ H x y v u Q I rx ry ⟨p, xs, _, z, e1, e2, SqL.of hp, atI_nat hi, q⟩
/-- list(a tracked list) -/
def rLst : List V → Hp → VK → Prop := fun xs H Q => ∃ (p : Addr) (ys : List V), xs = [.ref p] ∧ H p = some (.lst ys) ∧ ∀ l, H l = none → Q (.ref l) (upd H l (.lst ys))
theorem cr_lst : CallR X (.type "list") rLst := by
  intro pins s σ H xs us Q I r h
  obtain ⟨p, ys, e, hp, q⟩ := h
  exact call_list_of pins s σ H xs us Q I r ⟨p, ys, e, .inl (SqL.of hp), q⟩
/-- len(a tracked list) -/
def rLen1 : List V → Hp → VK → Prop := fun xs H Q => ∃ (p : Addr) (ys : List V), xs = [.ref p] ∧ H p = some (.lst ys) ∧ Q (nI ys.length) H
theorem cr_len1 : CallR X (.builtin "len") rLen1 := by
  intro pins s σ H xs us Q I r h
  obtain ⟨p, ys, e, hp, q⟩ := h
  exact call_len_seq pins s σ H xs us Q I r ⟨p, ys, e, .inl (SqL.of hp), q⟩
theorem pi_lst (K : PySem.W.Frag) {tg l : Expr} {tl : TE} (hl : PE X l tl) (hK : X.K = K := by rfl) : PI X tg l (iList K tl) := by
  subst hK
  exact pi_list hl
end
theorem fF_noM (F : Fr) : (fsF F).lookup ("across" : Str) = none ∧ (fsF F).lookup ("down" : Str) = none ∧ (fsF F).lookup ("tiles" : Str) = none ∧ (fsF F).lookup ("pixels" : Str) = none :=
  ⟨fF_no F (by decide +kernel) (by decide +kernel) (by decide +kernel) (by decide +kernel) (by decide +kernel), fF_no F (by decide +kernel) (by decide +kernel) (by decide +kernel) (by decide +kernel) (by decide +kernel),
    fF_no F (by decide +kernel) (by decide +kernel) (by decide +kernel) (by decide +kernel) (by decide +kernel), fF_no F (by decide +kernel) (by decide +kernel) (by decide +kernel) (by decide +kernel) (by decide +kernel)⟩
theorem fP_noM (F : Fr) (q : Addr) : (fsP F q).lookup ("value" : Str) = none ∧ (fsP F q).lookup ("rows" : Str) = none ∧ (fsP F q).lookup ("same" : Str) = none :=
  ⟨fP_no F q (by decide +kernel) (by decide +kernel) (by decide +kernel) (by decide +kernel) (by decide +kernel), fP_no F q (by decide +kernel) (by decide +kernel) (by decide +kernel) (by decide +kernel) (by decide +kernel),
    fP_no F q (by decide +kernel) (by decide +kernel) (by decide +kernel) (by decide +kernel) (by decide +kernel)⟩
theorem rowsOf_len (F : Fr) (R : Nat → Nat → Nat) : (rowsOf F R).length = F.c := by simp [rowsOf]
theorem rowsOf_get {F : Fr} {R : Nat → Nat → Nat} {i : Nat} {r : List Nat} (h : (rowsOf F R)[i]? = some r) : i < F.c ∧ r = (List.range F.np).map (R i) := by
  have hi : i < F.c := by
    have := (List.getElem?_eq_some_iff.mp h).1
    rwa [rowsOf_len] at this
  unfold rowsOf at h
  rw [List.getElem?_map, List.getElem?_range hi] at h
  exact ⟨hi, (Option.some.inj h).symm⟩
theorem rowsOf_at (F : Fr) (R : Nat → Nat → Nat) {i : Nat} (hi : i < F.c) : (rowsOf F R)[i]? = some ((List.range F.np).map (R i)) := by
  unfold rowsOf
  rw [List.getElem?_map, List.getElem?_range hi]
  rfl
theorem intsV_at {f : Nat → Nat} {n i : Nat} (hi : i < n) : (intsV ((List.range n).map f))[i]? = some (nI (f i)) := by
  rw [List.getElem?_map, List.getElem?_map, List.getElem?_range hi]
  rfl
theorem intsV_get {r : List Nat} {i : Nat} {x : V} (h : (intsV r)[i]? = some x) : ∃ n, r[i]? = some n ∧ x = nI n := by
  rw [List.getElem?_map] at h
  cases e : r[i]? with
  | none => rw [e] at h; cases h
  | some n => rw [e] at h; exact ⟨n, rfl, (Option.some.inj h).symm⟩
theorem refs_get {ps : List Addr} {i : Nat} {x : V} (h : (ps.map V.ref)[i]? = some x) : ∃ a, ps[i]? = some a ∧ x = .ref a := by
  rw [List.getElem?_map] at h
  cases e : ps[i]? with
  | none => rw [e] at h; cases h
  | some n => rw [e] at h; exact ⟨n, rfl, (Option.some.inj h).symm⟩
theorem refs_at {ps : List Addr} {i : Nat} {a : Addr} (h : ps[i]? = some a) : (ps.map V.ref)[i]? = some (.ref a) := by
  rw [List.getElem?_map, h]
  rfl
theorem pairedR {α β : Type} {G : α → β → Prop} : ∀ {l1 : List α} {l2 : List β}, Paired G l1 l2 → ∀ {i : Nat} {b : β}, l2[i]? = some b → ∃ a, l1[i]? = some a ∧ G a b
  | _, _, .nil, i, b, h => by simp at h
  | _, _, .cons r t, 0, b, h => by
    have e := Option.some.inj (by simpa using h)
    subst e
    exact ⟨_, rfl, r⟩
  | _, _, .cons r t, i + 1, b, h => by
    obtain ⟨a, h1, h2⟩ := pairedR t (i := i) (b := b) (by simpa using h)
    exact ⟨a, by simpa using h1, h2⟩
/-- the row of a channel, in the heap -/
theorem RowsA.row {H : Hp} {q : Addr} {F : Fr} {R : Nat → Nat → Nat} (h : RowsA H q (rowsOf F R)) {ch : Nat} (hc : ch < F.c) : ∃ (zs : List V) (a : Addr), H q = some (.lst zs) ∧ zs[ch]? = some (.ref a) ∧ H a = some (.lst (intsV ((List.range F.np).map (R ch)))) := by
  obtain ⟨ps, e, r⟩ := h
  obtain ⟨a, h1, h2⟩ := pairedR r (rowsOf_at F R hc)
  exact ⟨_, a, e, refs_at h1, h2⟩
end PP
/-! ## 8b. Walks in short -/
namespace PP
open PySem PySem.Spec PyProof.Rows L2
/-- range(n), n a natural number -/
def iRngN (te : TE) : TI := fun σ H R => te σ H fun x H1 => ∃ n : Nat, x = nI n ∧ n ≤ 16777216 ∧ R (Itr 0 n) H1
theorem PI.imp {X : Cx} {tg e : Expr} {t t' : TI} (h : PI X tg e t) (m : ∀ σ H R, t' σ H R → t σ H R) : PI X tg e t' := ⟨fun pins s σ H R I hw => h.run pins s σ H R I (m σ H R hw)⟩
theorem pi_rngN {X : Cx} {tg a : Expr} {ta : TE} {p pos : Pos} (hm : X.mg "range" = none) (ha : PE X a ta) (hg : Gl X "range" := by rfl) (hs : starEach [a] X.env = [(false, eval a X.env)] := by rfl) : PI X tg (.Call (.Name "range" p) [a] [] pos) (iRngN ta) := by
  have pa : PA X [a] (fun σ H Q => ∃ R : VK, ta σ H R ∧ ∀ x H1, R x H1 → Q [x] H1) := by
    have h1 : PE X a (fun σ H Q => ∃ R : VK, ta σ H R ∧ ∀ x H1, R x H1 → Q x H1) := ⟨fun pins s σ H Q I ⟨R, h1, h2⟩ => thn (ha.run pins s σ H R I h1) fun v s1 ⟨x, H1, I1, r1, q1⟩ => ⟨x, H1, I1, r1, h2 x H1 q1⟩⟩
    have h2 := pa_cons (es := []) h1 pa_nil hs
    exact ⟨fun pos pins s σ H Q I ⟨R, h3, h4⟩ => h2.run pos pins s σ H Q I ⟨R, h3, h4⟩⟩
  exact PI.imp (pi_range1 hg hm pa hs) fun σ H R h => ⟨_, h, fun x H1 ⟨n, e, h1, h2⟩ => ⟨(n : Int), by rw [e], by omega, by omega, h2⟩⟩
/-- a walk of n turns over 0 .. n - 1: B what a turn is asked -/
theorem it_rng {n : Nat} {B : V → Hp → (Hp → Prop) → Prop} {H0 : Hp} {Qd : Hp → Prop} (Pv : Nat → Hp → Prop) (h0 : Pv 0 H0) (hs : ∀ i H, i < n → Pv i H → B (nI i) H (Pv (i + 1))) (hd : ∀ H, Pv n H → Qd H) :
    ∃ W : Nat → Nat → Hp → Prop, (∃ m, W 0 m H0) ∧ ∀ i m H, W i m H → ((Itr 0 n).stop i H ∧ Qd H) ∨ ((Itr 0 n).go i H ∧ ∃ Nx : Hp → Prop, (∀ H', Nx H' → ∃ m', m' < m ∧ W (i + 1) m' H') ∧ ∀ x H', (Itr 0 n).yld i H x H' → B x H' Nx) := by
  refine ⟨fun i m H => m = n - i ∧ i ≤ n ∧ Pv i H, ⟨n, by simp, Nat.zero_le _, h0⟩, ?_⟩
  rintro i m H ⟨rfl, hi, p⟩
  by_cases hlt : i < n
  · refine .inr ⟨hlt, Pv (i + 1), fun H' p' => ⟨n - (i + 1), by omega, rfl, hlt, p'⟩, fun x H' y => ?_⟩
    obtain ⟨e, y⟩ := y
    subst e y
    rw [Int.zero_add]
    exact hs i _ hlt p
  · have e : i = n := by omega
    subst e
    exact .inl ⟨Nat.le_refl _, hd H p⟩
/-- over a list that stands still -/
theorem it_lst {K : PySem.W.Frag} {a : Addr} {xs : List V} {B : V → Hp → (Hp → Prop) → Prop} {H0 : Hp} {Qd : Hp → Prop} (Pv : Nat → Hp → Prop) (h0 : Pv 0 H0) (hl : ∀ i H, Pv i H → SqL K H a xs) (hs : ∀ i x H, xs[i]? = some x → Pv i H → B x H (Pv (i + 1))) (hd : ∀ H, Pv xs.length H → Qd H) :
    ∃ W : Nat → Nat → Hp → Prop, (∃ m, W 0 m H0) ∧ ∀ i m H, W i m H → ((Itl K a).stop i H ∧ Qd H) ∨ ((Itl K a).go i H ∧ ∃ Nx : Hp → Prop, (∀ H', Nx H' → ∃ m', m' < m ∧ W (i + 1) m' H') ∧ ∀ x H', (Itl K a).yld i H x H' → B x H' Nx) := by
  refine ⟨fun i m H => m = xs.length - i ∧ i ≤ xs.length ∧ Pv i H, ⟨xs.length, by simp, Nat.zero_le _, h0⟩, ?_⟩
  rintro i m H ⟨rfl, hi, p⟩
  have q := hl i H p
  by_cases hlt : i < xs.length
  · refine .inr ⟨⟨xs, xs[i], q, by simp [hlt]⟩, Pv (i + 1), fun H' p' => ⟨xs.length - (i + 1), by omega, rfl, hlt, p'⟩, fun x H' y => ?_⟩
    obtain ⟨e, y⟩ := y
    subst e
    exact hs i x _ (y xs q) p
  · have e : i = xs.length := by omega
    subst e
    exact .inl ⟨⟨xs, q, Nat.le_refl _⟩, hd H p⟩
/-- a for over range(n) -/
theorem for_rng {n : Nat} {g : TG} {tb : TS} {D : Ends} {σ : L2.St} {H : Hp} (Pv : Nat → L2.St → Hp → Prop) (h0 : Pv 0 σ H)
    (hs : ∀ i σ H, i < n → Pv i σ H → g (nI i) σ H fun σ2 H2 => tb { D with nx := Pv (i + 1), ct := Pv (i + 1), bk := D.nx } σ2 H2) (hd : ∀ σ H, Pv n σ H → D.nx σ H) :
    ∃ W : Nat → Nat → L2.St → Hp → Prop, (∃ m, W 0 m σ H) ∧ ∀ i m σ H, W i m σ H →
      ((Itr 0 n).stop i H ∧ D.nx σ H) ∨ ((Itr 0 n).go i H ∧ ∃ N : L2.St → Hp → Prop, (∀ σ' H', N σ' H' → ∃ m', m' < m ∧ W (i + 1) m' σ' H') ∧ ∀ x H', (Itr 0 n).yld i H x H' → g x σ H' fun σ2 H2 => tb { D with nx := N, ct := N, bk := D.nx } σ2 H2) :=
  for_range (lo := 0) Pv h0 (fun i σ H hi p => by rw [Int.zero_add]; exact hs i σ H hi p) hd
/-- H grew out of H0; a list that was not there stands at D -/
structure LA (H0 : Hp) (D : Addr) (H : Hp) (xs : List V) : Prop where
  same : Same H0 H
  free : H0 D = none
  at_ : H D = some (.lst xs)
theorem LA.new {H0 H : Hp} {D : Addr} (s : Same H0 H) (h : H D = none) {xs : List V} : LA H0 D (upd H D (.lst xs)) xs :=
  ⟨s.trans (Same.new h), s.free h, upd_same⟩
theorem LA.put {H0 H : Hp} {D : Addr} {xs ys : List V} (h : LA H0 D H xs) : LA H0 D (upd H D (.lst ys)) ys := ⟨Same.put h.same h.free, h.free, upd_same⟩
theorem LA.app {H0 H : Hp} {D : Addr} {xs ys : List V} {y : V} (h : LA H0 D H xs) (e : xs ++ [y] = ys) : LA H0 D (upd H D (.lst (xs ++ [y]))) ys := by
  subst e
  exact h.put
theorem intsV_snoc (A : List Nat) (f : Nat → Nat) (x : Nat) : intsV (A ++ (List.range x).map f) ++ [nI (f x)] = intsV (A ++ (List.range (x + 1)).map f) := by
  rw [List.range_succ, List.map_append, ← List.append_assoc, intsV, intsV, List.map_append (l₁ := A ++ (List.range x).map f)]
  rfl
theorem map_snoc {α : Type} (f : Nat → α) (x : Nat) : (List.range x).map f ++ [f x] = (List.range (x + 1)).map f := by
  rw [List.range_succ, List.map_append]
  rfl
/-- the heap grew -/
theorem LA.grow {H0 H H' : Hp} {D : Addr} {xs : List V} (h : LA H0 D H xs) (s : Same H H') : LA H0 D H' xs := ⟨h.same.trans s, h.free, s _ _ h.at_⟩
theorem small_of {n m : Nat} (h : n ≤ m) (hm : m < 16777216 := by decide) : n < sizeLine := by rw [sizeLine_eq]; omega
theorem small_le {n m : Nat} (h : n ≤ m) (hm : m ≤ 16777216 := by decide) : n ≤ sizeLine := by rw [sizeLine_eq]; omega
theorem range_snoc {α : Type} (f : Nat → α) (i : Nat) : (List.range (i + 1)).map f = (List.range i).map f ++ [f i] := by rw [List.range_succ, List.map_append]; rfl
theorem flatN {α : Type} {f : Nat → List α} {L : Nat} (h : ∀ j, (f j).length = L) (n : Nat) : ((List.range n).flatMap f).length = n * L := by
  induction n with
  | zero => simp
  | succ n ih => rw [List.range_succ, List.flatMap_append, List.length_append, ih, Nat.add_mul, Nat.one_mul]; simp [h]
theorem flat_snoc {α : Type} (f : Nat → List α) (n : Nat) : (List.range n).flatMap f ++ f n = (List.range (n + 1)).flatMap f := by
  rw [List.range_succ, List.flatMap_append]
  simp
/-- a list of keys being made at D -/
def KL (H1 : Hp) (D : Addr) (H : Hp) (ks : List Ky) : Prop := ∃ bs : List Addr, LA H1 D H (bs.map V.ref) ∧ Paired (fun b k => H b = some (.tup (kt k))) bs ks
theorem KL.app {H1 H : Hp} {D T : Addr} {ks : List Ky} (h : KL H1 D H ks) (hT : H T = none) (k : Ky) : ∃ acc, (upd H T (.tup (kt k))) D = some (.lst acc) ∧ acc.length = ks.length ∧ KL H1 D (upd (upd H T (.tup (kt k))) D (.lst (acc ++ [.ref T]))) (ks ++ [k]) := by
  obtain ⟨bs, L, r⟩ := h
  have nDT : D ≠ T := ne_of_none L.at_ hT
  refine ⟨bs.map V.ref, by rw [upd_ne nDT]; exact L.at_, by rw [List.length_map]; exact Paired.length r, bs ++ [T], ?_, ?_⟩
  · have L' := (L.grow (Same.new (o := .tup (kt k)) hT)).put (ys := (bs ++ [T]).map V.ref)
    rw [List.map_append] at L' ⊢
    exact L'
  · refine Paired.snoc (Paired.mapP r fun b k' e => ?_) ?_
    · rw [upd_ne (ne_of e L.at_ (by intro z; cases z)), upd_ne (ne_of_none e hT)]
      exact e
    · rw [upd_ne nDT.symm, upd_same]
theorem KL.keys {H1 H : Hp} {D : Addr} {ks : List Ky} (h : KL H1 D H ks) : KeysA H D ks := let ⟨bs, L, r⟩ := h; ⟨bs, L.at_, r⟩
theorem KL.same {H1 H : Hp} {D : Addr} {ks : List Ky} (h : KL H1 D H ks) : Same H1 H := let ⟨_, L, _⟩ := h; L.same
theorem KL.new {H1 : Hp} {D : Addr} (h : H1 D = none) : KL H1 D (upd H1 D (.lst [])) [] := ⟨[], LA.new (Same.refl _) h, .nil⟩
/-- a list of rows being made at D -/
def RL (H1 : Hp) (D : Addr) (H : Hp) (rs : List (List Nat)) : Prop := ∃ qs : List Addr, LA H1 D H (qs.map V.ref) ∧ Paired (fun a r => r ≠ [] ∧ H a = some (.lst (intsV r))) qs rs
theorem refs_ne_ints {qs : List Addr} {r : List Nat} (h : r ≠ []) : HO.lst (intsV r) ≠ HO.lst (qs.map V.ref) := by
  intro e
  injection e with e
  cases r with
  | nil => exact h rfl
  | cons n r =>
    cases qs with
    | nil => cases e
    | cons a qs =>
      have e : V.int n :: intsV r = V.ref a :: qs.map V.ref := e
      injection e with e _
      cases e
theorem RL.app {H1 H H' : Hp} {D T : Addr} {rs : List (List Nat)} {r : List Nat} (h : RL H1 D H rs) (s : Same H H') (hT : H' T = some (.lst (intsV r))) (hr : r ≠ []) : ∃ acc, H' D = some (.lst acc) ∧ acc.length = rs.length ∧ RL H1 D (upd H' D (.lst (acc ++ [.ref T]))) (rs ++ [r]) := by
  obtain ⟨qs, L, p⟩ := h
  have L' := L.grow s
  have nD : ∀ {a : Addr} {r : List Nat}, r ≠ [] → H' a = some (.lst (intsV r)) → a ≠ D := fun hr e => ne_of e L'.at_ (refs_ne_ints hr)
  refine ⟨qs.map V.ref, L'.at_, by rw [List.length_map]; exact Paired.length p, qs ++ [T], ?_, ?_⟩
  · have L2 := L'.put (ys := (qs ++ [T]).map V.ref)
    rw [List.map_append] at L2 ⊢
    exact L2
  · refine Paired.snoc (Paired.mapP p fun a r' z => ⟨z.1, ?_⟩) ⟨hr, ?_⟩
    · rw [upd_ne (nD z.1 (s _ _ z.2))]
      exact s _ _ z.2
    · rw [upd_ne (nD hr hT)]
      exact hT
theorem RL.rows {H1 H : Hp} {D : Addr} {rs : List (List Nat)} (h : RL H1 D H rs) : RowsA H D rs := let ⟨qs, L, p⟩ := h; ⟨qs, L.at_, Paired.mapP p fun _ _ z => z.2⟩
theorem RL.same {H1 H : Hp} {D : Addr} {rs : List (List Nat)} (h : RL H1 D H rs) : Same H1 H := let ⟨_, L, _⟩ := h; L.same
theorem RL.new {H1 : Hp} {D : Addr} (h : H1 D = none) : RL H1 D (upd H1 D (.lst [])) [] := ⟨[], LA.new (Same.refl _) h, .nil⟩
theorem take_snoc {α : Type} {l : List α} {i : Nat} {x : α} (h : l[i]? = some x) : l.take i ++ [x] = l.take (i + 1) := by
  rw [List.take_succ, h]
  rfl
theorem row_ne {F : Fr} (O : F.Ok) (f : Nat → Nat) : (List.range F.np).map f ≠ [] := by
  intro e
  have h := congrArg List.length e
  rw [List.length_map, List.length_range, List.length_nil] at h
  have h1 := O.np1
  omega
end PP
/-! ## 9. The promises -/
namespace PP
open PySem PySem.Spec PyProof.Rows L2
def spCS : Sp := fun vs H Q _ => ∃ F : Fr, F.Ok ∧ vs = [nI F.w, nI F.h, nI F.d, nI F.c] ∧ Q .non H
def spCZ : Sp := fun vs H Q _ => ∃ F : Fr, F.Ok ∧ vs = [nI F.w, nI F.h, nI F.c] ∧ Q .non H
def spFI (K : PySem.W.Frag) : Sp := fun vs H Q _ => ∃ (F : Fr) (p dx : Addr), F.Ok ∧ vs = [.ref p, nI F.w, nI F.h, nI F.d, nI F.c, nI F.t] ∧ H p = some (.ins (CF K) dx []) ∧ Q .non (upd H p (.ins (CF K) dx (fsF F)))
def spFr (K : PySem.W.Frag) (g : Fr → Nat) : Sp := fun vs H Q _ => ∃ (F : Fr) (p : Addr), F.Ok ∧ FrA K H p F ∧ vs = [.ref p] ∧ Q (nI (g F)) H
def spCorner (K : PySem.W.Frag) : Sp := fun vs H Q _ => ∃ (F : Fr) (p : Addr) (i : Nat), F.Ok ∧ i < F.nt ∧ FrA K H p F ∧ vs = [.ref p, nI i] ∧ ∀ H' a, Same H H' → H' a = some (.tup [nI (F.lf i), nI (F.tp i)]) → Q (.ref a) H'
def spSize (K : PySem.W.Frag) : Sp := fun vs H Q _ => ∃ (F : Fr) (p : Addr) (i : Nat), F.Ok ∧ i < F.nt ∧ FrA K H p F ∧ vs = [.ref p, nI i] ∧ ∀ H' a, Same H H' → H' a = some (.tup [nI (F.tw i), nI (F.th i)]) → Q (.ref a) H'
def spPixels (K : PySem.W.Frag) : Sp := fun vs H Q _ => ∃ (F : Fr) (p : Addr) (i : Nat), F.Ok ∧ i < F.nt ∧ FrA K H p F ∧ vs = [.ref p, nI i] ∧ ∀ H' a, Same H H' → H a = none → H' a = some (.lst (intsV (F.pix i))) → Q (.ref a) H'
def spAllKeys (K : PySem.W.Frag) : Sp := fun vs H Q _ => ∃ (F : Fr) (p : Addr), F.Ok ∧ FrA K H p F ∧ vs = [.ref p] ∧ ∀ H' a, Same H H' → H a = none → KeysA H' a F.keys → Q (.ref a) H'
def spCheckKey (K : PySem.W.Frag) : Sp := fun vs H Q _ => ∃ (F : Fr) (p b : Addr) (k : Ky), F.Ok ∧ F.keyOk k ∧ FrA K H p F ∧ H b = some (.tup (kt k)) ∧ vs = [.ref p, .ref b] ∧ Q .non H
def spAreValues : Sp := fun vs H Q _ => ∃ (F : Fr) (q : Addr) (R : Nat → Nat → Nat), F.Ok ∧ vs = [nI F.np, nI F.d, nI F.c, .ref q] ∧ RowsA H q (rowsOf F R) ∧ (∀ ch p, ch < F.c → p < F.np → R ch p < 2 ^ F.d) ∧ Q (.bl true) H
def spPI (K : PySem.W.Frag) : Sp := fun vs H Q _ => ∃ (F : Fr) (p dx q : Addr) (R : Nat → Nat → Nat), F.Ok ∧ vs = [.ref p, nI F.w, nI F.h, nI F.d, nI F.c, .ref q] ∧ H p = some (.ins (CP K) dx []) ∧ RowsA H q (rowsOf F R) ∧ (∀ ch p, ch < F.c → p < F.np → R ch p < 2 ^ F.d) ∧
  ∀ H' q', (∀ b o, b ≠ p → H b = some o → H' b = some o) → H' p = some (.ins (CP K) dx (fsP F q')) → RowsA H' q' (rowsOf F R) → Q .non H'
def spValue (K : PySem.W.Frag) : Sp := fun vs H Q _ => ∃ (F : Fr) (p : Addr) (R : Nat → Nat → Nat) (ch px : Nat), PicA K H p F R ∧ ch < F.c ∧ px < F.np ∧ vs = [.ref p, nI ch, nI px] ∧ Q (nI (R ch px)) H
def spRows (K : PySem.W.Frag) : Sp := fun vs H Q _ => ∃ (F : Fr) (p : Addr) (R : Nat → Nat → Nat), F.Ok ∧ PicA K H p F R ∧ vs = [.ref p] ∧ ∀ H' q, Same H H' → RowsA H' q (rowsOf F R) → Q (.ref q) H'
def spSame (K : PySem.W.Frag) : Sp := fun vs H Q _ => ∃ (F : Fr) (p p2 : Addr) (R R2 : Nat → Nat → Nat), F.Ok ∧ PicA K H p F R ∧ PicA K H p2 F R2 ∧ rowsOf F R = rowsOf F R2 ∧ vs = [.ref p, .ref p2] ∧ ∀ H', Same H H' → Q (.bl true) H'
def spFits (K : PySem.W.Frag) : Sp := fun vs H Q _ => ∃ (F : Fr) (p p2 : Addr) (R : Nat → Nat → Nat), FrA K H p F ∧ PicA K H p2 F R ∧ vs = [.ref p, .ref p2] ∧ Q (.bl true) H
def spGray : Sp := fun vs H Q _ => ∃ v pl : Nat, vs = [nI v, nI pl] ∧ pl ≤ 8 ∧ Q (bV (grayB v pl)) H
def spValueOf : Sp := fun vs H Q _ => ∃ (a : Addr) (bs : List Bool), vs = [.ref a] ∧ H a = some (.lst (bitsV bs)) ∧ bs.length ≤ 8 ∧ Q (nI (valueOf bs)) H
def spStoredBit (K : PySem.W.Frag) : Sp := fun vs H Q _ => ∃ (F : Fr) (p : Addr) (R : Nat → Nat → Nat) (ch px pl : Nat), F.Ok ∧ PicA K H p F R ∧ ch < F.c ∧ px < F.np ∧ pl < F.d ∧ vs = [.ref p, nI ch, nI px, nI pl] ∧ Q (bV (storedB F.c (fun a => R a px) ch pl)) H
def spPacketBits (K : PySem.W.Frag) : Sp := fun vs H Q _ => ∃ (F : Fr) (f p b : Addr) (R : Nat → Nat → Nat) (k : Ky), F.Ok ∧ FrA K H f F ∧ PicA K H p F R ∧ F.keyOk k ∧ H b = some (.tup (kt k)) ∧ vs = [.ref f, .ref p, .ref b] ∧ ∀ H', Same H H' → Q (.str (txt (bitsB F R k))) H'
def spStored (K : PySem.W.Frag) : Sp := fun vs H Q _ => ∃ (F : Fr) (f d : Addr) (P : Ky → List Bool), F.Ok ∧ FrA K H f F ∧ DicA H d F P ∧ (∀ k, F.keyOk k → (P k).length = (F.pix k.tl).length) ∧ vs = [.ref f, .ref d] ∧ ∀ H' t, Same H H' → TabA H' t F (marks F P F.keys) → Q (.ref t) H'
def spValues (K : PySem.W.Frag) : Sp := fun vs H Q _ => ∃ (F : Fr) (f t : Addr) (ch : Nat) (S : Nat → Nat → Nat → Bool), F.Ok ∧ FrA K H f F ∧ TabA H t F S ∧ ch < F.c ∧ vs = [.ref f, .ref t, nI ch] ∧
  ∀ H' a, Same H H' → H' a = some (.lst (intsV ((List.range F.np).map fun p => valueB F.c F.d (fun a pl => S a pl p) ch))) → Q (.ref a) H'
def spPictureOf (K : PySem.W.Frag) : Sp := fun vs H Q _ => ∃ (F : Fr) (f d : Addr) (P : Ky → List Bool), F.Ok ∧ FrA K H f F ∧ DicA H d F P ∧ (∀ k, F.keyOk k → (P k).length = (F.pix k.tl).length) ∧ vs = [.ref f, .ref d] ∧ ∀ H' p, Same H H' → PicA K H' p F (picB F P) → Q (.ref p) H'
def spCell (K : PySem.W.Frag) : Sp := fun vs H Q _ => ∃ (a : Addr) (ns : List Int) (k : Nat), SqL K H a (ns.map V.int) ∧ vs = [.ref a, nI k] ∧ ∀ z : Int, Q (.int z) H
def spMixed : Sp := fun vs H Q _ => ∃ (n : Int) (k m : Nat), 0 < m ∧ vs = [.int n, nI k, nI m] ∧ ∀ z : Nat, z < m → Q (nI z) H
def spNumbers : Sp := fun vs H Q _ => ∃ (n : Int) (k m : Nat), 0 < m ∧ m < 1073741824 ∧ k ≤ 2000000 ∧ vs = [.int n, nI k, nI m] ∧ ∀ H' a (ns : List Nat), Same H H' → H' a = some (.lst (intsV ns)) → ns.length = k → (∀ z ∈ ns, z < m) → Q (.ref a) H'
def spSizes : Sp := fun vs H Q _ => ∃ (n : Int) (m : Nat), 1 ≤ m ∧ m ≤ 16 ∧ vs = [.int n, nI m] ∧ ∀ H' a (F : Fr), F.Ok → Same H H' → H' a = some (.lst (szV F)) → Q (.ref a) H'
def spLValues : Sp := fun vs H Q _ => ∃ (n : Int) (a : Addr) (F : Fr), F.Ok ∧ H a = some (.lst (szV F)) ∧ vs = [.int n, .ref a] ∧ ∀ H' q (R : Nat → Nat → Nat), Same H H' → RowsA H' q (rowsOf F R) → (∀ ch p, ch < F.c → p < F.np → R ch p < 2 ^ F.d) → Q (.ref q) H'
def spLTiles : Sp := fun vs H Q _ => ∃ (a : Addr) (F : Fr), F.Ok ∧ H a = some (.lst (szV F)) ∧ vs = [.ref a] ∧ Q (nI F.nt) H
def spLOrder : Sp := fun vs H Q _ => ∃ (a : Addr) (F : Fr), F.Ok ∧ H a = some (.lst (szV F)) ∧ vs = [.ref a, nI F.nt] ∧ ∀ H' l, Same H H' → KeysA H' l F.keys → Q (.ref l) H'
def spLStored : Sp := fun vs H Q _ => ∃ (F : Fr) (q : Addr) (R : Nat → Nat → Nat) (ch px pl : Nat), F.Ok ∧ RowsA H q (rowsOf F R) ∧ ch < F.c ∧ px < F.np ∧ pl < F.d ∧ vs = [.ref q, nI ch, nI px, nI pl] ∧ Q (bV (storedB F.c (fun a => R a px) ch pl)) H
def spLPixels : Sp := fun vs H Q _ => ∃ (a : Addr) (F : Fr) (i : Nat), F.Ok ∧ i < F.nt ∧ H a = some (.lst (szV F)) ∧ vs = [.ref a, nI i] ∧ ∀ H' l, Same H H' → H' l = some (.lst (intsV (F.pix i))) → Q (.ref l) H'
def spLBits : Sp := fun vs H Q _ => ∃ (F : Fr) (a q b : Addr) (R : Nat → Nat → Nat) (k : Ky), F.Ok ∧ H a = some (.lst (szV F)) ∧ RowsA H q (rowsOf F R) ∧ F.keyOk k ∧ H b = some (.tup (kt k)) ∧ vs = [.ref a, .ref q, .ref b] ∧ ∀ H', Same H H' → Q (.str (txt (bitsB F R k))) H'
def dicOf (P : Ky → List Bool) (ks : List Ky) : List (List Key × V) := ks.map fun k => (kk k, .str (txt (P k)))
def spDrawn (K : PySem.W.Frag) : Sp := fun vs H Q _ => ∃ (F : Fr) (f l : Addr) (n : Int), F.Ok ∧ FrA K H f F ∧ KeysA H l F.keys ∧ vs = [.ref f, .ref l, .int n] ∧ ∀ H' d (P : Ky → List Bool), Same H H' → (∀ k, F.keyOk k → (P k).length = (F.pix k.tl).length) → H' d = some (.dT (dicOf P F.keys)) → Q (.ref d) H'
def spLaw (K : PySem.W.Frag) : Sp := fun vs H Q _ => ∃ (a : Addr) (ns : List Int), vs = [.ref a] ∧ SqL K H a (ns.map V.int) ∧ ns.length ≤ 63 ∧ ∀ H', Q (.bl true) H'
end PP
/-! ## 10. frames.py -/
namespace PP
open PySem PySem.Spec PyProof.Rows L2
section
variable {P : Program} {w : World} {K : PySem.W.Frag} {mg : Str → Option Value} {base : Heap} {f : Addr} {fd : FuncData}
theorem sc_cs : FnScope ["width", "height", "depth", "channels"] ["width", "height", "depth", "channels"] (defScope s_cs) := ⟨rfl, rfl, rfl, by decide +kernel, rfl, by decide +kernel, by decide +kernel⟩
theorem ok_cs (U : Fun K "check_shape" "check_shape" s_cs f fd) (T : Txt K mg) : FnOk P w K mg base CX0 1 f fd ["width", "height", "depth", "channels"] spCS := by
  refine U.ok sc_cs (fun vs H Q E h => ?_) (fun cdv A outer s H vs Q E hr h => ?_)
  · obtain ⟨F, _, rfl, _⟩ := h
    rfl
  · obtain ⟨F, O, rfl, q⟩ := h
    obtain ⟨tS, eS⟩ := T.iS
    obtain ⟨tD, eD⟩ := T.iD
    refine ⟨_, pss_cons (ps_if (pt_not (pt_chain op_le op_le pe_int (pv 0) (pe_gi eS))) pss_never pss_nil)
      (pss_cons (ps_if (pt_not (pt_chain op_le op_le pe_int (pv 1) (pe_gi eS))) pss_never pss_nil)
      (pss_cons (ps_if (pt_not (pt_chain op_le op_le pe_int (pv 2) (pe_gi eD))) pss_never pss_nil)
      (pss_one (ps_if (PW.pt (pw_and (pt_cmpR op_ne (pv 3) pe_int (nomark _)) (pw_and1 (pt_cmpR op_ne (pv 3) pe_int (nomark _))))) pss_never pss_nil)))), ?_⟩
    have w1 := O.w1; have w2 := O.w2; have h1 := O.h1; have h2 := O.h2; have d1 := O.d1; have d2 := O.d2
    refine ⟨_, rfl, _, _, rfl, rfl, _, rfl, iteD (by omega) ⟨_, _, rfl, rfl, _, rfl, ?_⟩⟩
    rw [decide_eq_true (show ((F.w : Nat) : Int) ≤ 64 by omega)]
    refine iteF ?_
    refine ⟨_, rfl, _, _, rfl, rfl, _, rfl, iteD (by omega) ⟨_, _, rfl, rfl, _, rfl, ?_⟩⟩
    rw [decide_eq_true (show ((F.h : Nat) : Int) ≤ 64 by omega)]
    refine iteF ?_
    refine ⟨_, rfl, _, _, rfl, rfl, _, rfl, iteD (by omega) ⟨_, _, rfl, rfl, _, rfl, ?_⟩⟩
    rw [decide_eq_true (show ((F.d : Nat) : Int) ≤ 8 by omega)]
    refine iteF ?_
    refine ⟨_, rfl, rfl, _, rfl, ?_⟩
    rcases O.c1 with e | e
    · rw [e]
      exact q
    · rw [e]
      exact ⟨_, rfl, rfl, _, rfl, q⟩
theorem sc_cz : FnScope ["width", "height", "channels"] ["width", "height", "channels"] (defScope s_cz) := ⟨rfl, rfl, rfl, by decide +kernel, rfl, by decide +kernel, by decide +kernel⟩
theorem Fr.Ok.c3 {F : Fr} (O : F.Ok) : F.c ≤ 3 := by rcases O.c1 with e | e <;> omega
theorem ok_cz (U : Fun K "check_size" "check_size" s_cz f fd) (T : Txt K mg) : FnOk P w K mg base CX0 1 f fd ["width", "height", "channels"] spCZ := by
  refine U.ok sc_cz (fun vs H Q E h => ?_) (fun cdv A outer s H vs Q E hr h => ?_)
  · obtain ⟨F, _, rfl, _⟩ := h
    rfl
  · obtain ⟨F, O, rfl, q⟩ := h
    obtain ⟨tV, eV⟩ := T.iV
    refine ⟨_, pss_one (ps_if (pt_cmpR op_gt (pe_op op_mulN (pe_op op_mulN (pv 0) (pv 1)) (pv 2)) (pe_gi eV) (nomark _)) pss_never pss_nil), ?_⟩
    have w2 := O.w2
    have n2 := O.np2
    have c3 := O.c3
    have m : F.w * F.h * F.c ≤ 256 * 3 := Nat.mul_le_mul n2 c3
    have n2 : F.w * F.h ≤ 256 := n2
    refine ⟨_, rfl, _, rfl, _, _, rfl, rfl, by omega, _, rfl, _, _, rfl, rfl, by omega, _, _, rfl, rfl, _, rfl, iteDn (by omega) ?_⟩
    exact q
theorem sc_fi : FnScope ["self", "width", "height", "depth", "channels", "tile"] ["self", "width", "height", "depth", "channels", "tile"] (defScope s_fi) := ⟨rfl, rfl, rfl, by decide +kernel, rfl, by decide +kernel, by decide +kernel⟩
theorem ok_fi (U : Fun K "__init__" "Frame.__init__" s_fi f fd) (T : Txt K mg) (DCS : Dfn P w K mg base 1 "check_shape" ["width", "height", "depth", "channels"] spCS) (DCZ : Dfn P w K mg base 1 "check_size" ["width", "height", "channels"] spCZ) :
    FnOk P w K mg base CX0 2 f fd ["self", "width", "height", "depth", "channels", "tile"] (spFI K) := by
  refine U.ok sc_fi (fun vs H Q E h => ?_) (fun cdv A outer s H vs Q E hr h => ?_)
  · obtain ⟨F, p, dx, _, rfl, _⟩ := h
    rfl
  · obtain ⟨F, p, dx, O, rfl, hp, q⟩ := h
    obtain ⟨tT, eT⟩ := T.iT
    refine ⟨_, pss_cons (ps_expr (pe_fn DCS hr (pa_cons (pv 1) (pa_cons (pv 2) (pa_cons (pv 3) (pa_cons (pv 4) pa_nil))))))
      (pss_cons (ps_if (pt_not (pt_chain op_le op_le pe_int (pv 5) (pe_gi eT))) pss_never pss_nil)
      (pss_cons (ps_expr (pe_fn DCZ hr (pa_cons (pv 1) (pa_cons (pv 2) (pa_cons (pv 4) pa_nil)))))
      (pss_cons (ps_fld (pv 0) (pv 1) rfl) (pss_cons (ps_fld (pv 0) (pv 2) rfl) (pss_cons (ps_fld (pv 0) (pv 3) rfl) (pss_cons (ps_fld (pv 0) (pv 4) rfl) (pss_one (ps_fld (pv 0) (pv 5) rfl)))))))), ?_⟩
    have t1 := O.t1
    have t2 := O.t2
    refine ⟨_, rfl, _, rfl, _, rfl, _, rfl, F, O, rfl, ?_⟩
    refine ⟨_, rfl, _, _, rfl, rfl, _, rfl, iteD (by omega) ⟨_, _, rfl, rfl, _, rfl, ?_⟩⟩
    rw [decide_eq_true (show ((F.t : Nat) : Int) ≤ 16 by omega)]
    refine iteF ?_
    refine ⟨_, rfl, _, rfl, _, rfl, F, O, rfl, ?_⟩
    refine ⟨_, rfl, _, rfl, p, CF K, dx, _, rfl, hp, T.clF, T.nFw, by decide, ?_⟩
    refine ⟨_, rfl, _, rfl, p, CF K, dx, _, rfl, upd_same, T.clF, T.nFh, Nat.lt_of_le_of_lt (putF_len _ _ _) (by decide), ?_⟩
    refine ⟨_, rfl, _, rfl, p, CF K, dx, _, rfl, upd_same, T.clF, T.nFd, Nat.lt_of_le_of_lt (Nat.le_trans (putF_len _ _ _) (Nat.succ_le_succ (putF_len _ _ _))) (by decide), ?_⟩
    refine ⟨_, rfl, _, rfl, p, CF K, dx, _, rfl, upd_same, T.clF, T.nFc, Nat.lt_of_le_of_lt (Nat.le_trans (putF_len _ _ _) (Nat.succ_le_succ (Nat.le_trans (putF_len _ _ _) (Nat.succ_le_succ (putF_len _ _ _))))) (by decide), ?_⟩
    refine ⟨_, rfl, _, rfl, p, CF K, dx, _, rfl, upd_same, T.clF, T.nFt, Nat.lt_of_le_of_lt (Nat.le_trans (putF_len _ _ _) (Nat.succ_le_succ (Nat.le_trans (putF_len _ _ _) (Nat.succ_le_succ (Nat.le_trans (putF_len _ _ _) (Nat.succ_le_succ (putF_len _ _ _))))))) (by decide), ?_⟩
    show Q .non _
    rw [upd_upd, upd_upd, upd_upd, upd_upd, fF_put]
    exact q
theorem sc_fa : FnScope ["self"] ["self"] (defScope s_fa) := ⟨rfl, rfl, rfl, by decide +kernel, rfl, by decide +kernel, by decide +kernel⟩
theorem ok_fa (U : Fun K "across" "Frame.across" s_fa f fd) (T : Txt K mg) : FnOk P w K mg base CX0 1 f fd ["self"] (spFr K Fr.ac) := by
  refine U.ok sc_fa (fun vs H Q E h => ?_) (fun cdv A outer s H vs Q E hr h => ?_)
  · obtain ⟨F, p, _, _, rfl, _⟩ := h
    rfl
  · obtain ⟨F, p, O, hF, rfl, q⟩ := h
    refine ⟨_, pss_one (ps_ret (pe_op op_fdivNN (pe_op op_subN (pe_op op_addN (pe_fw T (pv 0)) (pe_ft T (pv 0))) pe_int) (pe_ft T (pv 0)))), ?_⟩
    have t1 := O.t1
    have t2 := O.t2
    refine ⟨_, rfl, p, F, rfl, hF, _, rfl, p, F, rfl, hF, _, _, rfl, rfl, _, 1, rfl, rfl, by omega, _, rfl, p, F, rfl, hF, _, _, rfl, rfl, ⟨t1, by omega⟩, q⟩
theorem ok_fd (U : Fun K "down" "Frame.down" s_fd f fd) (T : Txt K mg) : FnOk P w K mg base CX0 1 f fd ["self"] (spFr K Fr.dn) := by
  refine U.ok (N := ["self"]) ⟨rfl, rfl, rfl, by decide +kernel, rfl, by decide +kernel, by decide +kernel⟩ (fun vs H Q E h => ?_) (fun cdv A outer s H vs Q E hr h => ?_)
  · obtain ⟨F, p, _, _, rfl, _⟩ := h
    rfl
  · obtain ⟨F, p, O, hF, rfl, q⟩ := h
    refine ⟨_, pss_one (ps_ret (pe_op op_fdivNN (pe_op op_subN (pe_op op_addN (pe_fh T (pv 0)) (pe_ft T (pv 0))) pe_int) (pe_ft T (pv 0)))), ?_⟩
    have t1 := O.t1
    have t2 := O.t2
    refine ⟨_, rfl, p, F, rfl, hF, _, rfl, p, F, rfl, hF, _, _, rfl, rfl, _, 1, rfl, rfl, by omega, _, rfl, p, F, rfl, hF, _, _, rfl, rfl, ⟨t1, by omega⟩, q⟩
theorem ok_ft (U : Fun K "tiles" "Frame.tiles" s_ft f fd) (T : Txt K mg) (DA : Mth P w K mg base 1 (CF K) "across" ["self"] (spFr K Fr.ac)) (DD : Mth P w K mg base 1 (CF K) "down" ["self"] (spFr K Fr.dn)) : FnOk P w K mg base CX0 2 f fd ["self"] (spFr K Fr.nt) := by
  refine U.ok (N := ["self"]) ⟨rfl, rfl, rfl, by decide +kernel, rfl, by decide +kernel, by decide +kernel⟩ (fun vs H Q E h => ?_) (fun cdv A outer s H vs Q E hr h => ?_)
  · obtain ⟨F, p, _, _, rfl, _⟩ := h
    rfl
  · obtain ⟨F, p, O, ⟨dx, hF⟩, rfl, q⟩ := h
    refine ⟨_, pss_one (ps_ret (pe_op op_mulN (pe_mt0 DA T.clF hr (pv 0)) (pe_mt0 DD T.clF hr (pv 0)))), ?_⟩
    have a2 := O.ac2
    refine ⟨_, rfl, p, dx, _, rfl, hF, fF_no F (by decide +kernel) (by decide +kernel) (by decide +kernel) (by decide +kernel) (by decide +kernel), F, p, O, ⟨dx, hF⟩, rfl, ?_⟩
    refine ⟨_, rfl, p, dx, _, rfl, hF, fF_no F (by decide +kernel) (by decide +kernel) (by decide +kernel) (by decide +kernel) (by decide +kernel), F, p, O, ⟨dx, hF⟩, rfl, ?_⟩
    exact ⟨_, _, rfl, rfl, by omega, q⟩
theorem ok_fp (U : Fun K "pixels" "Frame.pixels" s_fp f fd) (T : Txt K mg) : FnOk P w K mg base CX0 1 f fd ["self"] (spFr K Fr.np) := by
  refine U.ok (N := ["self"]) ⟨rfl, rfl, rfl, by decide +kernel, rfl, by decide +kernel, by decide +kernel⟩ (fun vs H Q E h => ?_) (fun cdv A outer s H vs Q E hr h => ?_)
  · obtain ⟨F, p, _, _, rfl, _⟩ := h
    rfl
  · obtain ⟨F, p, O, hF, rfl, q⟩ := h
    refine ⟨_, pss_one (ps_ret (pe_op op_mulN (pe_fw T (pv 0)) (pe_fh T (pv 0)))), ?_⟩
    have w2 := O.w2
    exact ⟨_, rfl, p, F, rfl, hF, _, rfl, p, F, rfl, hF, _, _, rfl, rfl, by omega, q⟩
/-- divmod of naturals -/
theorem call_divmodN {X : Cx} : CallR X (.builtin "divmod") (fun xs H Q => ∃ n m : Nat, xs = [nI n, nI m] ∧ (1 ≤ m ∧ m < 1073741824) ∧ ∀ p, H p = none → Q (.ref p) (upd H p (.tup [nI (n / m), nI (n % m)]))) := by
  intro pins s σ H xs us Q I r h
  obtain ⟨n, m, rfl, ⟨c1, c2⟩, q⟩ := h
  exact call_divmod pins s σ H _ us Q I r ⟨_, _, rfl, ⟨by omega, by omega⟩, fun p hp => by rw [← Int.natCast_ediv, ← Int.natCast_emod]; exact q p hp⟩
theorem sc_tc : FnScope ["frame", "tile", "row", "column"] ["frame", "tile"] (defScope s_tc) := ⟨rfl, rfl, rfl, by decide +kernel, rfl, by decide +kernel, by decide +kernel⟩
theorem ok_tc (U : Fun K "tile_corner" "tile_corner" s_tc f fd) (T : Txt K mg) (DA : Mth P w K mg base 1 (CF K) "across" ["self"] (spFr K Fr.ac)) : FnOk P w K mg base CX0 2 f fd ["frame", "tile"] (spCorner K) := by
  refine U.ok sc_tc (fun vs H Q E h => ?_) (fun cdv A outer s H vs Q E hr h => ?_)
  · obtain ⟨F, p, i, _, _, _, rfl, _⟩ := h
    rfl
  · obtain ⟨F, p, i, O, hi, ⟨dx, hF⟩, rfl, q⟩ := h
    refine ⟨_, pss_cons (ps_asg (pe_callB call_divmodN (by rfl) T.divmod (by decide +kernel) (pa_cons (pv 1) (pa_cons (pe_mt0 DA T.clF hr (pv 0)) pa_nil))) (pg_tup (by rfl) (pgs_cons (pg_name (i := 2) sc_tc.nd rfl (.inl rfl)) (pgs_cons (pg_name (i := 3) sc_tc.nd rfl (.inl rfl)) pgs_nil))))
      (pss_one (ps_ret (pe_tup (pa_cons (pe_op op_mulN (pv 3) (pe_ft T (pv 0))) (pa_cons (pe_op op_mulN (pv 2) (pe_ft T (pv 0))) pa_nil))))), ?_⟩
    have a1 := O.ac1
    have a2 := O.ac2
    have d2 := O.dn2
    have l1 : i % F.ac < F.ac := Nat.mod_lt _ a1
    have l2 : i / F.ac < F.dn := Nat.div_lt_of_lt_mul hi
    refine ⟨_, rfl, _, rfl, p, dx, _, rfl, hF, fF_no F (by decide +kernel) (by decide +kernel) (by decide +kernel) (by decide +kernel) (by decide +kernel), F, p, O, ⟨dx, hF⟩, rfl, ?_⟩
    refine ⟨_, _, rfl, ⟨a1, by omega⟩, fun b hb => ?_⟩
    have hF' : FrA K (upd H b (.tup [nI (i / F.ac), nI (i % F.ac)])) p F := FrA.same ⟨dx, hF⟩ (Same.new hb)
    refine ⟨b, _, rfl, SqT.of upd_same, rfl, _, _, rfl, _, _, rfl, rfl, ?_⟩
    refine ⟨_, rfl, _, rfl, p, F, rfl, hF', _, _, rfl, rfl, by omega, _, rfl, _, rfl, p, F, rfl, hF', _, _, rfl, rfl, by omega, by show 2 ≤ sizeLine; decide, fun a ha => ?_⟩
    exact q _ a ((Same.new hb).trans (Same.new ha)) upd_same
/-- min of naturals -/
theorem call_minN {X : Cx} (hc : X.calm = true) : CallR X (.builtin "min") (fun xs H Q => ∃ n m : Nat, xs = [nI n, nI m] ∧ Q (nI (min n m)) H) := by
  intro pins s σ H xs us Q I r h
  obtain ⟨n, m, rfl, q⟩ := h
  refine call_min2 hc pins s σ H _ us Q I r ⟨_, _, rfl, ?_⟩
  have e : (if (m : Int) < (n : Int) then (m : Int) else (n : Int)) = ((min n m : Nat) : Int) := by
    rw [Nat.min_def]
    split <;> split <;> omega
  rw [e]
  exact q
theorem sc_tz : FnScope ["frame", "tile", "left", "top"] ["frame", "tile"] (defScope s_tz) := ⟨rfl, rfl, rfl, by decide +kernel, rfl, by decide +kernel, by decide +kernel⟩
theorem ok_tz (U : Fun K "tile_size" "tile_size" s_tz f fd) (T : Txt K mg) (DC : Dfn P w K mg base 2 "tile_corner" ["frame", "tile"] (spCorner K)) : FnOk P w K mg base CX0 3 f fd ["frame", "tile"] (spSize K) := by
  refine U.ok sc_tz (fun vs H Q E h => ?_) (fun cdv A outer s H vs Q E hr h => ?_)
  · obtain ⟨F, p, i, _, _, _, rfl, _⟩ := h
    rfl
  · obtain ⟨F, p, i, O, hi, hF, rfl, q⟩ := h
    refine ⟨_, pss_cons (ps_asg (pe_fn DC hr (pa_cons (pv 0) (pa_cons (pv 1) pa_nil))) (pg_tup (by rfl) (pgs_cons (pg_name (i := 2) sc_tz.nd rfl (.inl rfl)) (pgs_cons (pg_name (i := 3) sc_tz.nd rfl (.inl rfl)) pgs_nil))))
      (pss_one (ps_ret (pe_tup (pa_cons (pe_callB (call_minN rfl) (by rfl) T.min (by decide +kernel) (pa_cons (pe_ft T (pv 0)) (pa_cons (pe_op op_subN (pe_fw T (pv 0)) (pv 2)) pa_nil)))
        (pa_cons (pe_callB (call_minN rfl) (by rfl) T.min (by decide +kernel) (pa_cons (pe_ft T (pv 0)) (pa_cons (pe_op op_subN (pe_fh T (pv 0)) (pv 3)) pa_nil))) pa_nil))))), ?_⟩
    have l1 := O.lf_lt i
    have l2 := O.tp_lt hi
    refine ⟨_, rfl, _, rfl, F, p, i, O, hi, hF, rfl, fun H1 a s1 h1 => ?_⟩
    have hF1 := hF.same s1
    refine ⟨a, _, rfl, SqT.of h1, rfl, _, _, rfl, _, _, rfl, rfl, ?_⟩
    refine ⟨_, rfl, p, F, rfl, hF1, _, rfl, p, F, rfl, hF1, _, rfl, _, _, rfl, rfl, Nat.le_of_lt l1, _, _, rfl, ?_⟩
    refine ⟨_, rfl, p, F, rfl, hF1, _, rfl, p, F, rfl, hF1, _, rfl, _, _, rfl, rfl, Nat.le_of_lt l2, _, _, rfl, ?_⟩
    refine ⟨by show 2 ≤ sizeLine; decide, fun b hb => ?_⟩
    exact q _ b (s1.trans (Same.new hb)) upd_same
theorem flat_len (F : Fr) (i y : Nat) : ((List.range y).flatMap (F.rowPix i)).length = y * F.tw i := by
  rw [List.length_flatMap]
  have e : ((List.range y).map fun a => (F.rowPix i a).length) = List.replicate y (F.tw i) := by
    rw [List.eq_replicate_iff]
    refine ⟨by simp, fun b hb => ?_⟩
    obtain ⟨a, _, rfl⟩ := List.mem_map.mp hb
    simp [Fr.rowPix]
  rw [e, sum_rep]
abbrev nTp : List Str := ["frame", "tile", "left", "top", "width", "height", "y", "x"]
theorem sc_tp : FnScope nTp ["frame", "tile"] (defScope s_tp) := ⟨rfl, rfl, rfl, by decide +kernel, rfl, by decide +kernel, by decide +kernel⟩
theorem ok_tp (U : Fun K "tile_pixels" "tile_pixels" s_tp f fd) (T : Txt K mg) (DC : Dfn P w K mg base 2 "tile_corner" ["frame", "tile"] (spCorner K)) (DZ : Dfn P w K mg base 3 "tile_size" ["frame", "tile"] (spSize K)) :
    FnOk P w K mg base CX0 4 f fd ["frame", "tile"] (spPixels K) := by
  refine U.ok sc_tp (fun vs H Q E h => ?_) (fun cdv A outer s H vs Q E hr h => ?_)
  · obtain ⟨F, p, i, _, _, _, rfl, _⟩ := h
    rfl
  · obtain ⟨F, p, i, O, hi, hF, rfl, q⟩ := h
    refine ⟨_, pss_cons (ps_asg (pe_fn DC hr (pa_cons (pv 0) (pa_cons (pv 1) pa_nil))) (pg_tup (by rfl) (pgs_cons (pg_name (i := 2) sc_tp.nd rfl (.inr rfl)) (pgs_cons (pg_name (i := 3) sc_tp.nd rfl (.inr rfl)) pgs_nil))))
      (pss_cons (ps_asg (pe_fn DZ hr (pa_cons (pv 0) (pa_cons (pv 1) pa_nil))) (pg_tup (by rfl) (pgs_cons (pg_name (i := 4) sc_tp.nd rfl (.inr rfl)) (pgs_cons (pg_name (i := 5) sc_tp.nd rfl (.inl rfl)) pgs_nil))))
      (pss_one (ps_ret (pe_lc2 (own := [("y", 6), ("x", 7)]) (vs1 := [7]) (g := gName 6) (g1 := gName 7) (tt := tYes) (tt1 := tYes) rfl sc_tp.nd (pi_rngN T.range (pv 5)) (blkOk_by (N := nTp) (sc := defScope s_tp) (by decide +kernel)) (by decide)
        (fun _ _ _ _ _ => pg_name (i := 6) sc_tp.nd rfl (.inl rfl)) (fun _ _ _ _ _ => pts_nil) (fun _ _ _ _ _ => pi_rngN T.range (pv 4)) (fun _ _ _ _ _ => pg_name (i := 7) sc_tp.nd rfl (.inl rfl)) (fun _ _ _ _ _ => pts_nil)
        (fun _ _ _ _ _ => pe_op op_addN (pe_op op_addN (pe_op op_mulN (pe_op op_addN (pv 3) (pv 6)) (pe_fw T (pv 0))) (pv 2)) (pv 7)))))), ?_⟩
    have w2 := O.w2
    have h2 := O.h2
    have t2 := O.t2
    have l2 := O.tp_lt hi
    have lw : F.tw i ≤ 16 := Nat.le_trans (Nat.min_le_left _ _) t2
    have lh : F.th i ≤ 16 := Nat.le_trans (Nat.min_le_left _ _) t2
    refine ⟨_, rfl, _, rfl, F, p, i, O, hi, hF, rfl, fun H1 a s1 h1 => ?_⟩
    refine ⟨a, _, rfl, SqT.of h1, rfl, _, _, rfl, _, _, rfl, rfl, ?_⟩
    refine ⟨_, rfl, _, rfl, F, p, i, O, hi, hF.same s1, rfl, fun H2 b s2 hb => ?_⟩
    refine ⟨b, _, rfl, SqT.of hb, rfl, _, _, rfl, _, _, rfl, rfl, ?_⟩
    have s02 := s1.trans s2
    refine ⟨_, rfl, F.th i, rfl, by omega, fun D hD => ?_⟩
    refine it_rng (fun y H' => LA H D H' (intsV ((List.range y).flatMap (F.rowPix i)))) ⟨s02.trans (Same.new hD), s02.free hD, upd_same⟩ (fun y H' hy L => ?_) (fun H' L => q H' D L.same L.free L.at_)
    refine ⟨rfl, _, rfl, F.tw i, rfl, by omega, ?_⟩
    refine it_rng (fun x H' => LA H D H' (intsV ((List.range y).flatMap (F.rowPix i) ++ (List.range x).map fun x => (F.tp i + y) * F.w + F.lf i + x))) ?_ (fun x H' hx L => ?_) (fun H' L => ?_)
    · simpa using L
    · have hF1 : FrA K H' p F := hF.same L.same
      have b1 : F.tp i + y ≤ 100 := by omega
      refine ⟨rfl, _, rfl, _, rfl, _, _, rfl, rfl, _, rfl, p, F, rfl, hF1, _, _, rfl, rfl, by omega, _, rfl, _, _, rfl, rfl, _, rfl, _, _, rfl, rfl, ?_⟩
      refine ⟨_, L.at_, ?_, ?_⟩
      · have e : (List.range y).flatMap (F.rowPix i) ++ (List.range x).map (fun x => (F.tp i + y) * F.w + F.lf i + x) = (List.range y).flatMap (F.rowPix i) ++ (List.range x).map (fun x => (F.tp i + y) * F.w + F.lf i + x) := rfl
        refine small_of (m := 1000) ?_
        rw [List.length_map, List.length_append, List.length_map, List.length_range, flat_len]
        have : y * F.tw i ≤ 16 * 16 := Nat.mul_le_mul (by omega) lw
        omega
      · exact L.app (intsV_snoc ((List.range y).flatMap (F.rowPix i)) (fun x => (F.tp i + y) * F.w + F.lf i + x) x)
    · have e : (List.range (y + 1)).flatMap (F.rowPix i) = (List.range y).flatMap (F.rowPix i) ++ (List.range (F.tw i)).map fun x => (F.tp i + y) * F.w + F.lf i + x := by
        rw [List.range_succ, List.flatMap_append]
        simp [Fr.rowPix]
      rw [e]
      exact L
end
end PP
/-! ## 10b. frames.py: keys -/
namespace PP
open PySem PySem.Spec PyProof.Rows L2
section
variable {P : Program} {w : World} {K : PySem.W.Frag} {mg : Str → Option Value} {base : Heap} {f : Addr} {fd : FuncData}
abbrev nAk : List Str := ["frame", "tiles", "planes", "plane", "channel", "tile"]
theorem sc_ak : FnScope nAk ["frame"] (defScope s_ak) := ⟨rfl, rfl, rfl, by decide +kernel, rfl, by decide +kernel, by decide +kernel⟩
theorem ok_ak (U : Fun K "all_keys" "all_keys" s_ak f fd) (T : Txt K mg) (DT : Mth P w K mg base 2 (CF K) "tiles" ["self"] (spFr K Fr.nt)) : FnOk P w K mg base CX0 3 f fd ["frame"] (spAllKeys K) := by
  refine U.ok sc_ak (fun vs H Q E h => ?_) (fun cdv A outer s H vs Q E hr h => ?_)
  · obtain ⟨F, p, _, _, rfl, _⟩ := h
    rfl
  · obtain ⟨F, p, O, hF, rfl, q⟩ := h
    refine ⟨_, pss_cons (ps_set (i := 1) sc_ak.nd rfl (.inr rfl) (pe_mt0 DT T.clF hr (pv 0)))
      (pss_cons (ps_set (i := 2) sc_ak.nd rfl (.inl rfl) (pe_listDown rfl (by rfl) T.list (by rfl) T.reversed (by rfl) T.range (pe_fd T (pv 0))))
      (pss_one (ps_ret (pe_lc3 (own := [("plane", 3), ("channel", 4), ("tile", 5)]) (vs1 := [4, 5]) (vs2 := [5]) (g := gName 3) (g1 := gName 4) (g2 := gName 5) rfl sc_ak.nd (pi_list (pv 2)) (blkOk_by (N := nAk) (sc := defScope s_ak) (by decide +kernel)) (by decide) (by decide)
        (fun _ _ _ _ _ => pg_name (i := 3) sc_ak.nd rfl (.inl rfl)) (fun _ _ _ _ _ => pi_rngN T.range (pe_fc T (pv 0))) (fun _ _ _ _ _ => pg_name (i := 4) sc_ak.nd rfl (.inl rfl)) (fun _ _ _ _ _ => pi_rngN T.range (pv 1)) (fun _ _ _ _ _ => pg_name (i := 5) sc_ak.nd rfl (.inl rfl))
        (fun _ _ _ _ _ => pe_tup (pa_cons (pv 4) (pa_cons (pv 5) (pa_cons (pv 3) pa_nil)))))))), ?_⟩
    have c3 := O.c3
    have d2 := O.d2
    have n2 := O.nt2
    obtain ⟨dx, hF0⟩ := id hF
    refine ⟨_, rfl, p, dx, _, rfl, hF0, fF_no F (by decide +kernel) (by decide +kernel) (by decide +kernel) (by decide +kernel) (by decide +kernel), F, p, O, hF, rfl, ?_⟩
    refine ⟨_, rfl, p, F, rfl, hF, F.d, rfl, by omega, fun a ha => ?_⟩
    have s1 : Same H (upd H a (.lst (downV F.d))) := Same.new ha
    refine ⟨_, rfl, a, rfl, ⟨_, SqL.of upd_same⟩, fun D hD => ?_⟩
    have lc : ∀ p ch, (F.keysCh p ch).length = F.nt := fun p ch => by simp [Fr.keysCh]
    have lp : ∀ p, (F.keysPl p).length = F.c * F.nt := fun p => flatN (lc p) F.c
    refine it_lst (K := K) (a := a) (xs := downV F.d) (fun i H' => KL (upd H a (.lst (downV F.d))) D H' ((List.range i).flatMap fun j => F.keysPl (F.d - 1 - j))) (KL.new hD) (fun i H' L => SqL.of (L.same _ _ upd_same)) (fun i x H' hx L => ?_) (fun H' L => ?_)
    · have hi : i < F.d := by
        have := (List.getElem?_eq_some_iff.mp hx).1
        unfold downV at this
        simpa using this
      have ex : x = nI (F.d - 1 - i) := by
        unfold downV at hx
        rw [List.getElem?_map, List.getElem?_range hi] at hx
        rw [← Option.some.inj hx]
        show V.int _ = V.int _
        congr 1
        omega
      subst ex
      refine ⟨rfl, ?_⟩
      refine ⟨_, rfl, p, F, rfl, hF.same (s1.trans L.same), F.c, rfl, by omega, ?_⟩
      refine it_rng (fun ch H' => KL (upd H a (.lst (downV F.d))) D H' (((List.range i).flatMap fun j => F.keysPl (F.d - 1 - j)) ++ (List.range ch).flatMap (F.keysCh (F.d - 1 - i)))) (by simpa using L) (fun ch H2 hch L2 => ?_) (fun H2 L2 => ?_)
      · refine ⟨rfl, ?_⟩
        refine ⟨_, rfl, F.nt, rfl, by omega, ?_⟩
        refine it_rng (fun t H' => KL (upd H a (.lst (downV F.d))) D H' ((((List.range i).flatMap fun j => F.keysPl (F.d - 1 - j)) ++ (List.range ch).flatMap (F.keysCh (F.d - 1 - i))) ++ (List.range t).map fun t => (⟨ch, t, F.d - 1 - i⟩ : Ky))) (by simpa using L2) (fun t H3 ht L3 => ?_) (fun H3 L3 => ?_)
        · refine ⟨rfl, ?_⟩
          refine ⟨_, rfl, _, rfl, _, rfl, by show 3 ≤ sizeLine; decide, fun b hb => ?_⟩
          obtain ⟨acc, e1, e2, L4⟩ := L3.app hb ⟨ch, t, F.d - 1 - i⟩
          refine ⟨acc, e1, ?_, ?_⟩
          · refine small_of (m := 100000) ?_
            rw [e2, List.length_append, List.length_append, flatN (fun j => lp _), flatN (lc _), List.length_map, List.length_range]
            have m1 : F.c * F.nt ≤ 3 * 256 := Nat.mul_le_mul c3 n2
            have m2 : i * (F.c * F.nt) ≤ 8 * (3 * 256) := Nat.mul_le_mul (by omega) m1
            have m3 : ch * F.nt ≤ 3 * 256 := Nat.mul_le_mul (by omega) n2
            omega
          · rw [← map_snoc, ← List.append_assoc]
            exact L4
        · rw [← flat_snoc, ← List.append_assoc]
          exact L3
      · rw [← flat_snoc]
        exact L2
    · have e : (downV F.d).length = F.d := by unfold downV; simp
      rw [e] at L
      exact q H' D (s1.trans L.same) (s1.free hD) L.keys
abbrev nCk : List Str := ["frame", "key", "channel", "tile", "plane"]
theorem sc_ck : FnScope nCk ["frame", "key"] (defScope s_ck) := ⟨rfl, rfl, rfl, by decide +kernel, rfl, by decide +kernel, by decide +kernel⟩
theorem ok_ck (U : Fun K "check_key" "check_key" s_ck f fd) (T : Txt K mg) (DT : Mth P w K mg base 2 (CF K) "tiles" ["self"] (spFr K Fr.nt)) : FnOk P w K mg base CX0 3 f fd ["frame", "key"] (spCheckKey K) := by
  refine U.ok sc_ck (fun vs H Q E h => ?_) (fun cdv A outer s H vs Q E hr h => ?_)
  · obtain ⟨F, p, b, k, _, _, _, _, rfl, _⟩ := h
    rfl
  · obtain ⟨F, p, b, k, O, ok, hF, hb, rfl, q⟩ := h
    refine ⟨_, pss_cons (ps_asg (pv 1) (pg_tup (by rfl) (pgs_cons (pg_name (i := 2) sc_ck.nd rfl (.inl rfl)) (pgs_cons (pg_name (i := 3) sc_ck.nd rfl (.inl rfl)) (pgs_cons (pg_name (i := 4) sc_ck.nd rfl (.inl rfl)) pgs_nil)))))
      (pss_cons (ps_if (pt_not (pt_chain op_le op_lt pe_int (pv 2) (pe_fc T (pv 0)))) pss_never pss_nil)
      (pss_cons (ps_if (pt_not (pt_chain op_le op_lt pe_int (pv 3) (pe_mt0 DT T.clF hr (pv 0)))) pss_never pss_nil)
      (pss_one (ps_if (pt_not (pt_chain op_le op_lt pe_int (pv 4) (pe_fd T (pv 0)))) pss_never pss_nil)))), ?_⟩
    obtain ⟨dx, hF0⟩ := id hF
    obtain ⟨k1, k2, k3⟩ := ok
    refine ⟨_, rfl, b, _, rfl, SqT.of hb, rfl, _, _, rfl, _, _, rfl, _, _, rfl, rfl, ?_⟩
    refine ⟨_, rfl, _, _, rfl, rfl, _, rfl, iteD (by omega) ⟨_, rfl, p, F, rfl, hF, _, _, rfl, rfl, _, rfl, ?_⟩⟩
    rw [decide_eq_true (show ((k.ch : Nat) : Int) < (F.c : Nat) by omega)]
    refine iteF ?_
    refine ⟨_, rfl, _, _, rfl, rfl, _, rfl, iteD (by omega) ⟨_, rfl, p, dx, _, rfl, hF0, fF_no F (by decide +kernel) (by decide +kernel) (by decide +kernel) (by decide +kernel) (by decide +kernel), F, p, O, hF, rfl, _, _, rfl, rfl, _, rfl, ?_⟩⟩
    rw [decide_eq_true (show ((k.tl : Nat) : Int) < (F.nt : Nat) by omega)]
    refine iteF ?_
    refine ⟨_, rfl, _, _, rfl, rfl, _, rfl, iteD (by omega) ⟨_, rfl, p, F, rfl, hF, _, _, rfl, rfl, _, rfl, ?_⟩⟩
    rw [decide_eq_true (show ((k.pl : Nat) : Int) < (F.d : Nat) by omega)]
    exact q
end
end PP
/-! ## 11. pictures.py -/
namespace PP
open PySem PySem.Spec PyProof.Rows L2
section
variable {P : Program} {w : World} {K : PySem.W.Frag} {mg : Str → Option Value} {base : Heap} {f : Addr} {fd : FuncData}
abbrev nAv : List Str := ["pixels", "depth", "channels", "values", "beyond", "row", "value"]
theorem sc_av : FnScope nAv ["pixels", "depth", "channels", "values"] (defScope s_av) := ⟨rfl, rfl, rfl, by decide +kernel, rfl, by decide +kernel, by decide +kernel⟩
theorem ok_av (U : Fun K "_are_values" "_are_values" s_av f fd) (T : Txt K mg) : FnOk P w K mg base CX0 1 f fd ["pixels", "depth", "channels", "values"] spAreValues := by
  refine U.ok sc_av (fun vs H Q E h => ?_) (fun cdv A outer s H vs Q E hr h => ?_)
  · obtain ⟨F, q, R, _, rfl, _⟩ := h
    rfl
  · obtain ⟨F, q, R, O, rfl, ⟨ps, hq, pr⟩, hR, k⟩ := h
    refine ⟨_, pss_cons (ps_if (pt_cmpR op_ne (pe_callB cr_len1 (by rfl) T.len PySem.boot_len (pa_cons (pv 3) pa_nil)) (pv 2) (nomark _)) pss_never pss_nil)
      (pss_cons (ps_set (i := 4) sc_av.nd rfl (.inl rfl) (pe_op op_oneShl pe_int (pv 1)))
      (pss_cons (ps_for PassesOwn.never rfl (pi_list (pv 3)) (pg_name (i := 5) sc_av.nd rfl (.inl rfl))
        (pss_cons (ps_if (pt_cmpR op_ne (pe_callB cr_len1 (by rfl) T.len PySem.boot_len (pa_cons (pv 5) pa_nil)) (pv 0) (nomark _)) pss_never pss_nil)
        (pss_one (ps_for PassesOwn.never rfl (pi_list (pv 5)) (pg_name (i := 6) sc_av.nd rfl (.inl rfl))
          (pss_one (ps_if (pt_not (pt_chain op_le op_lt pe_int (pv 6) (pv 4))) pss_never pss_nil))))))
      (pss_one (ps_ret pe_bl)))), ?_⟩
    have d2 := O.d2
    have el : ((ps.map V.ref).length : Nat) = F.c := by rw [List.length_map, Paired.length pr, rowsOf_len]
    refine ⟨_, rfl, q, _, rfl, hq, _, rfl, rfl, _, rfl, iteNS (by rw [el]) ?_⟩
    refine ⟨_, rfl, F.d, rfl, rfl, by omega, ?_⟩
    refine ⟨_, rfl, q, rfl, ⟨_, SqL.of hq⟩, for_list (K := K) (a := q) (xs := ps.map V.ref) (fun i σ H' => H' = H ∧ ∃ v5 v6, σ = [some (nI F.np), some (nI F.d), some (nI F.c), some (.ref q), some (.int (2 ^ F.d)), v5, v6]) ⟨rfl, _, _, rfl⟩ (fun i σ H' _ ⟨e, _⟩ => by rw [e]; exact SqL.of hq) ?_ ?_⟩
    · rintro i x σ H' hx ⟨rfl, v5, v6, rfl⟩
      obtain ⟨a, ha, rfl⟩ := refs_get hx
      obtain ⟨r, hr1, hr2⟩ := paired_get pr ha
      obtain ⟨hi, rfl⟩ := rowsOf_get hr1
      refine ⟨_, rfl, a, _, rfl, hr2, _, rfl, rfl, _, rfl, iteNS (by simp) ?_⟩
      refine ⟨_, rfl, a, rfl, ⟨_, SqL.of hr2⟩, for_list (K := K) (a := a) (xs := intsV ((List.range F.np).map (R i))) (fun j σ H2 => H2 = H' ∧ ∃ v6, σ = [some (nI F.np), some (nI F.d), some (nI F.c), some (.ref q), some (.int (2 ^ F.d)), some (.ref a), v6]) ⟨rfl, _, rfl⟩ (fun i σ H2 _ ⟨e, _⟩ => by rw [e]; exact SqL.of hr2) ?_ ?_⟩
      · rintro j y σ H2 hy ⟨rfl, w6, rfl⟩
        have hj : j < F.np := by
          have := (List.getElem?_eq_some_iff.mp hy).1
          simpa using this
        rw [intsV_at hj] at hy
        obtain rfl := Option.some.inj hy
        have b := hR i j hi hj
        have b' : ((R i j : Nat) : Int) < 2 ^ F.d := by rw [← PySem.W.kbt_cast]; omega
        refine ⟨_, rfl, _, _, rfl, rfl, _, rfl, iteD (by omega) ⟨_, rfl, _, _, rfl, rfl, _, rfl, ?_⟩⟩
        rw [decide_eq_true b']
        refine iteF ?_
        exact ⟨rfl, _, rfl⟩
      · rintro σ H2 ⟨rfl, w6, rfl⟩
        exact ⟨rfl, _, _, rfl⟩
    · rintro σ H' ⟨rfl, v5, v6, rfl⟩
      exact k
abbrev nPi : List Str := ["self", "width", "height", "depth", "channels", "values", "row"]
theorem sc_pi : FnScope nPi ["self", "width", "height", "depth", "channels", "values"] (defScope s_pi) := ⟨rfl, rfl, rfl, by decide +kernel, rfl, by decide +kernel, by decide +kernel⟩
theorem ok_pi (U : Fun K "__init__" "Picture.__init__" s_pi f fd) (T : Txt K mg) (DCS : Dfn P w K mg base 1 "check_shape" ["width", "height", "depth", "channels"] spCS) (DCZ : Dfn P w K mg base 1 "check_size" ["width", "height", "channels"] spCZ)
    (DAV : Dfn P w K mg base 1 "_are_values" ["pixels", "depth", "channels", "values"] spAreValues) :
    FnOk P w K mg base CX0 2 f fd ["self", "width", "height", "depth", "channels", "values"] (spPI K) := by
  refine U.ok sc_pi (fun vs H Q E h => ?_) (fun cdv A outer s H vs Q E hr h => ?_)
  · obtain ⟨F, p, dx, q, R, _, rfl, _⟩ := h
    rfl
  · obtain ⟨F, p, dx, q, R, O, rfl, hp, hq, hR, k⟩ := h
    refine ⟨_, pss_cons (ps_expr (pe_fn DCS hr (pa_cons (pv 1) (pa_cons (pv 2) (pa_cons (pv 3) (pa_cons (pv 4) pa_nil))))))
      (pss_cons (ps_expr (pe_fn DCZ hr (pa_cons (pv 1) (pa_cons (pv 2) (pa_cons (pv 4) pa_nil)))))
      (pss_cons (ps_if (pt_not (pt_val (pe_fn DAV hr (pa_cons (pe_op op_mulN (pv 1) (pv 2)) (pa_cons (pv 3) (pa_cons (pv 4) (pa_cons (pv 5) pa_nil))))))) pss_never pss_nil)
      (pss_cons (ps_fld (pv 0) (pv 1) rfl) (pss_cons (ps_fld (pv 0) (pv 2) rfl) (pss_cons (ps_fld (pv 0) (pv 3) rfl) (pss_cons (ps_fld (pv 0) (pv 4) rfl)
      (pss_one (ps_fld (pv 0) (pe_lc (own := [("row", 6)]) (g := gName 6) (tt := tYes) rfl sc_pi.nd (pi_list (pv 5)) (blkOk_by (N := nPi) (sc := defScope s_pi) (by decide +kernel))
        (fun _ _ _ _ _ => pg_name (i := 6) sc_pi.nd rfl (.inl rfl)) (fun _ _ _ _ _ => pts_nil) (fun _ _ _ _ _ => pe_callTy cr_lst (by rfl) T.list (by decide +kernel) (pa_cons (pv 6) pa_nil))) rfl)))))))), ?_⟩
    have w2 := O.w2
    refine ⟨_, rfl, _, rfl, _, rfl, _, rfl, F, O, rfl, ?_⟩
    refine ⟨_, rfl, _, rfl, _, rfl, F, O, rfl, ?_⟩
    refine ⟨_, rfl, _, rfl, _, _, rfl, rfl, by omega, _, rfl, _, rfl, _, rfl, F, q, R, O, rfl, hq, hR, _, rfl, ?_⟩
    refine ⟨_, rfl, _, rfl, p, CP K, dx, _, rfl, hp, T.clP, T.nPw, by decide, ?_⟩
    refine ⟨_, rfl, _, rfl, p, CP K, dx, _, rfl, upd_same, T.clP, T.nPh, Nat.lt_of_le_of_lt (putF_len _ _ _) (by decide), ?_⟩
    refine ⟨_, rfl, _, rfl, p, CP K, dx, _, rfl, upd_same, T.clP, T.nPd, Nat.lt_of_le_of_lt (Nat.le_trans (putF_len _ _ _) (Nat.succ_le_succ (putF_len _ _ _))) (by decide), ?_⟩
    refine ⟨_, rfl, _, rfl, p, CP K, dx, _, rfl, upd_same, T.clP, T.nPc, Nat.lt_of_le_of_lt (Nat.le_trans (putF_len _ _ _) (Nat.succ_le_succ (Nat.le_trans (putF_len _ _ _) (Nat.succ_le_succ (putF_len _ _ _))))) (by decide), ?_⟩
    rw [upd_upd, upd_upd, upd_upd]
    generalize hfs : putF "channels" (nI F.c) (putF "depth" (nI F.d) (putF "height" (nI F.h) (putF "width" (nI F.w) []))) = fs
    have hlen : fs.length ≤ 4 := by
      rw [← hfs]
      exact Nat.le_trans (putF_len _ _ _) (Nat.succ_le_succ (Nat.le_trans (putF_len _ _ _) (Nat.succ_le_succ (Nat.le_trans (putF_len _ _ _) (Nat.succ_le_succ (putF_len _ _ _))))))
    have old : ∀ b o, b ≠ p → H b = some o → upd H p (.ins (CP K) dx fs) b = some o := fun b o hb e => by rw [upd_ne hb]; exact e
    obtain ⟨ps, hq0, pr⟩ := hq
    have nqp : q ≠ p := ne_of hq0 hp (by intro z; cases z)
    refine ⟨_, rfl, q, rfl, ⟨_, SqL.of (old _ _ nqp hq0)⟩, fun D hD => ?_⟩
    refine it_lst (K := K) (a := q) (xs := ps.map V.ref) (fun i H' => RL (upd H p (.ins (CP K) dx fs)) D H' ((rowsOf F R).take i)) (RL.new hD) (fun i H' L => SqL.of (L.same _ _ (old _ _ nqp hq0))) (fun i x H' hx L => ?_) (fun H' L => ?_)
    · obtain ⟨a, ha, rfl⟩ := refs_get hx
      obtain ⟨r, hr1, hr2⟩ := paired_get pr ha
      obtain ⟨hi, er⟩ := rowsOf_get hr1
      have nap : a ≠ p := ne_of hr2 hp (by intro z; cases z)
      refine ⟨rfl, _, rfl, a, _, rfl, L.same _ _ (old _ _ nap hr2), fun b hb => ?_⟩
      obtain ⟨acc, e1, e2, L2⟩ := L.app (Same.new (o := .lst (intsV r)) hb) upd_same (by rw [er]; exact row_ne O _)
      refine ⟨acc, e1, small_of (m := 100) ?_, ?_⟩
      · rw [e2, List.length_take, rowsOf_len]
        have := O.c3
        omega
      · rw [← take_snoc hr1]
        exact L2
    · have el : (ps.map V.ref).length = (rowsOf F R).length := by rw [List.length_map]; exact Paired.length pr
      rw [el, List.take_length] at L
      have hp' : H' p = some (.ins (CP K) dx fs) := L.same _ _ upd_same
      have nDp : D ≠ p := fun e => by rw [e, upd_same] at hD; cases hD
      refine ⟨_, rfl, p, CP K, dx, _, rfl, hp', T.clP, T.nPr, Nat.lt_of_le_of_lt hlen (by decide), ?_⟩
      refine k _ D (fun b o hb e => ?_) (by rw [upd_same, ← hfs, fP_put]) ?_
      · rw [upd_ne hb]
        exact L.same _ _ (old _ _ hb e)
      · obtain ⟨qs, e1, e2⟩ := L.rows
        refine ⟨qs, by rw [upd_ne nDp]; exact e1, Paired.mapP e2 fun a r z => ?_⟩
        rw [upd_ne (ne_of z hp' (by intro z; cases z))]
        exact z
theorem ok_pl (U : Fun K "value" "Picture.value" s_pl f fd) (T : Txt K mg) : FnOk P w K mg base CX0 1 f fd ["self", "channel", "pixel"] (spValue K) := by
  refine U.ok (N := ["self", "channel", "pixel"]) ⟨rfl, rfl, rfl, by decide +kernel, rfl, by decide +kernel, by decide +kernel⟩ (fun vs H Q E h => ?_) (fun cdv A outer s H vs Q E hr h => ?_)
  · obtain ⟨F, p, R, ch, px, _, _, _, rfl, _⟩ := h
    rfl
  · obtain ⟨F, p, R, ch, px, ⟨dx, q, hp, hq⟩, hc, hx, rfl, k⟩ := h
    refine ⟨_, pss_one (ps_ret (pe_ix ix_N (pe_ix ix_N (pe_pr T (pv 0)) (pv 1) (fun _ _ => rfl)) (pv 2) (fun _ _ => rfl))), ?_⟩
    obtain ⟨zs, a, h1, h2, h3⟩ := hq.row hc
    exact ⟨_, rfl, p, F, q, dx, rfl, hp, _, rfl, q, zs, ch, _, rfl, rfl, h1, h2, _, rfl, a, _, px, _, rfl, rfl, h3, intsV_at hx, k⟩
abbrev nPr : List Str := ["self", "row"]
theorem sc_pr : FnScope nPr ["self"] (defScope s_pr) := ⟨rfl, rfl, rfl, by decide +kernel, rfl, by decide +kernel, by decide +kernel⟩
theorem ok_pr (U : Fun K "rows" "Picture.rows" s_pr f fd) (T : Txt K mg) : FnOk P w K mg base CX0 1 f fd ["self"] (spRows K) := by
  refine U.ok sc_pr (fun vs H Q E h => ?_) (fun cdv A outer s H vs Q E hr h => ?_)
  · obtain ⟨F, p, R, _, _, rfl, _⟩ := h
    rfl
  · obtain ⟨F, p, R, O, ⟨dx, q, hp, hq⟩, rfl, k⟩ := h
    refine ⟨_, pss_one (ps_ret (pe_lc (own := [("row", 1)]) (g := gName 1) (tt := tYes) rfl sc_pr.nd (pi_list (pe_pr T (pv 0))) (blkOk_by (N := nPr) (sc := defScope s_pr) (by decide +kernel))
        (fun _ _ _ _ _ => pg_name (i := 1) sc_pr.nd rfl (.inl rfl)) (fun _ _ _ _ _ => pts_nil) (fun _ _ _ _ _ => pe_callTy cr_lst (by rfl) T.list (by decide +kernel) (pa_cons (pv 1) pa_nil)))), ?_⟩
    obtain ⟨ps, hq0, pr⟩ := hq
    refine ⟨_, rfl, p, F, q, dx, rfl, hp, q, rfl, ⟨_, SqL.of hq0⟩, fun D hD => ?_⟩
    refine it_lst (K := K) (a := q) (xs := ps.map V.ref) (fun i H' => RL H D H' ((rowsOf F R).take i)) (RL.new hD) (fun i H' L => SqL.of (L.same _ _ hq0)) (fun i x H' hx L => ?_) (fun H' L => ?_)
    · obtain ⟨a, ha, rfl⟩ := refs_get hx
      obtain ⟨r, hr1, hr2⟩ := paired_get pr ha
      obtain ⟨hi, er⟩ := rowsOf_get hr1
      refine ⟨rfl, _, rfl, a, _, rfl, L.same _ _ hr2, fun b hb => ?_⟩
      obtain ⟨acc, e1, e2, L2⟩ := L.app (Same.new (o := .lst (intsV r)) hb) upd_same (by rw [er]; exact row_ne O _)
      refine ⟨acc, e1, small_of (m := 100) ?_, ?_⟩
      · rw [e2, List.length_take, rowsOf_len]
        have := O.c3
        omega
      · rw [← take_snoc hr1]
        exact L2
    · have el : (ps.map V.ref).length = (rowsOf F R).length := by rw [List.length_map]; exact Paired.length pr
      rw [el, List.take_length] at L
      exact k H' D L.same L.rows
theorem ints_eq {K : PySem.W.Frag} {H : Hp} : ∀ r : List Nat, Paired (EqV K H 1) (intsV r) (intsV r)
  | [] => .nil
  | n :: r => .cons (.inl ⟨rfl, rfl⟩) (ints_eq r)
theorem paired_refs {H : Hp} {G : V → V → Prop} : ∀ {ps qs : List Addr} {rs : List (List Nat)}, Paired (fun a r => H a = some (.lst (intsV r))) ps rs → Paired (fun a r => H a = some (.lst (intsV r))) qs rs →
    (∀ a b r, H a = some (.lst (intsV r)) → H b = some (.lst (intsV r)) → G (.ref a) (.ref b)) → Paired G (ps.map V.ref) (qs.map V.ref)
  | _, _, _, .nil, .nil, _ => .nil
  | _, _, _, .cons r1 t1, .cons r2 t2, h => .cons (h _ _ _ r1 r2) (paired_refs t1 t2 h)
theorem rows_eq {K : PySem.W.Frag} {H : Hp} {a b : Addr} {rs : List (List Nat)} (h1 : RowsA H a rs) (h2 : RowsA H b rs) : EqR K H (EqV K H 2) (.ref a) (.ref b) := by
  obtain ⟨ps, e1, p1⟩ := h1
  obtain ⟨qs, e2, p2⟩ := h2
  refine .inl ⟨a, b, _, _, rfl, rfl, SqL.of e1, SqL.of e2, paired_refs p1 p2 fun x y r ex ey => ?_⟩
  exact .inr (.inr (.inl ⟨x, y, _, _, rfl, rfl, SqL.of ex, SqL.of ey, ints_eq r⟩))
theorem ok_pe (U : Fun K "same" "Picture.same" s_pe f fd) (T : Txt K mg) (DR : Mth P w K mg base 1 (CP K) "rows" ["self"] (spRows K)) : FnOk P w K mg base CX0 2 f fd ["self", "other"] (spSame K) := by
  refine U.ok (N := ["self", "other"]) ⟨rfl, rfl, rfl, by decide +kernel, rfl, by decide +kernel, by decide +kernel⟩ (fun vs H Q E h => ?_) (fun cdv A outer s H vs Q E hr h => ?_)
  · obtain ⟨F, p, p2, R, R2, _, _, _, _, rfl, _⟩ := h
    rfl
  · obtain ⟨F, p, p2, R, R2, O, ⟨dx, q, hp, hq⟩, ⟨dx2, q2, hp2, hq2⟩, e, rfl, k⟩ := h
    refine ⟨_, pss_cons (ps_if (PW.pt (pw_or (pt_cmpR op_ne (pe_pw T (pv 0)) (pe_pw T (pv 1)) (nomark _)) (pw_or1 (pt_cmpR op_ne (pe_ph T (pv 0)) (pe_ph T (pv 1)) (nomark _))))) pss_never pss_nil)
      (pss_cons (ps_if (PW.pt (pw_or (pt_cmpR op_ne (pe_pd T (pv 0)) (pe_pd T (pv 1)) (nomark _)) (pw_or1 (pt_cmpR op_ne (pe_pc T (pv 0)) (pe_pc T (pv 1)) (nomark _))))) pss_never pss_nil)
      (pss_one (ps_ret (pe_cmpR (op_eqV hr.units) (pe_pr T (pv 0)) (pe_mt0 DR T.clP hr (pv 1)) (nomark _))))), ?_⟩
    refine ⟨_, rfl, p, F, q, dx, rfl, hp, _, rfl, p2, F, q2, dx2, rfl, hp2, rfl, _, rfl, iteNS rfl ?_⟩
    refine ⟨_, rfl, p, F, q, dx, rfl, hp, _, rfl, p2, F, q2, dx2, rfl, hp2, rfl, _, rfl, iteNS rfl ?_⟩
    refine ⟨_, rfl, p, F, q, dx, rfl, hp, _, rfl, p2, F, q2, dx2, rfl, hp2, rfl, _, rfl, iteNS rfl ?_⟩
    refine ⟨_, rfl, p, F, q, dx, rfl, hp, _, rfl, p2, F, q2, dx2, rfl, hp2, rfl, _, rfl, iteNS rfl ?_⟩
    refine ⟨_, rfl, p, F, q, dx, rfl, hp, _, rfl, p2, dx2, _, rfl, hp2, (fP_noM F q2).2.1, F, p2, R2, O, ⟨dx2, q2, hp2, hq2⟩, rfl, fun H' q3 s3 h3 => ?_⟩
    rw [← e] at h3
    exact ⟨2, by decide, rows_eq (hq.same s3) h3, k H' s3⟩
theorem ok_ff (U : Fun K "fits_frame" "fits_frame" s_ff f fd) (T : Txt K mg) : FnOk P w K mg base CX0 1 f fd ["frame", "picture"] (spFits K) := by
  refine U.ok (N := ["frame", "picture"]) ⟨rfl, rfl, rfl, by decide +kernel, rfl, by decide +kernel, by decide +kernel⟩ (fun vs H Q E h => ?_) (fun cdv A outer s H vs Q E hr h => ?_)
  · obtain ⟨F, p, p2, R, _, _, rfl, _⟩ := h
    rfl
  · obtain ⟨F, p, p2, R, hp, ⟨dx2, q2, hp2, hq2⟩, rfl, k⟩ := h
    refine ⟨_, pss_cons (ps_if (PW.pt (pw_or (pt_cmpR op_ne (pe_fw T (pv 0)) (pe_pw T (pv 1)) (nomark _)) (pw_or1 (pt_cmpR op_ne (pe_fh T (pv 0)) (pe_ph T (pv 1)) (nomark _))))) pss_never pss_nil)
      (pss_one (ps_ret (pe_and (pe_cmpR op_eq (pe_fd T (pv 0)) (pe_pd T (pv 1)) (nomark _)) (pe_one (pe_cmpR op_eq (pe_fc T (pv 0)) (pe_pc T (pv 1)) (nomark _)))))), ?_⟩
    refine ⟨_, rfl, p, F, rfl, hp, _, rfl, p2, F, q2, dx2, rfl, hp2, rfl, _, rfl, iteNS rfl ?_⟩
    refine ⟨_, rfl, p, F, rfl, hp, _, rfl, p2, F, q2, dx2, rfl, hp2, rfl, _, rfl, iteNS rfl ?_⟩
    refine ⟨_, rfl, p, F, rfl, hp, _, rfl, p2, F, q2, dx2, rfl, hp2, rfl, _, rfl, iteD rfl ?_⟩
    refine ⟨_, rfl, p, F, rfl, hp, _, rfl, p2, F, q2, dx2, rfl, hp2, rfl, ?_⟩
    rw [decide_eq_true rfl]
    exact k
end
end PP
/-! ## 12. grays.py: bits -/
namespace PP
open PySem PySem.Spec PyProof.Rows L2
theorem gray_xor (v pl : Nat) : (v / 2 ^ pl ^^^ v / 2 ^ (pl + 1)) % 2 = (grayB v pl).toNat := by
  unfold grayB
  generalize v / 2 ^ pl = a
  generalize v / 2 ^ (pl + 1) = b
  have e : (a ^^^ b) % 2 = (a % 2 ^^^ b % 2) := by
    have := @Nat.xor_mod_two_pow a b 1
    simpa using this
  rw [e]
  have h1 : a % 2 = 0 ∨ a % 2 = 1 := by omega
  have h2 : b % 2 = 0 ∨ b % 2 = 1 := by omega
  rcases h1 with h1 | h1 <;> rcases h2 with h2 | h2 <;> rw [h1, h2] <;> rfl
section
variable {X : Cx}
theorem op_shrNN : OpR X (binaryOp .RShift) (fun x y H Q => ∃ n m : Nat, x = nI n ∧ y = nI m ∧ Q (nI (n / 2 ^ m)) H) := by
  intro pins s σ H x y v u Q I rx ry h
  obtain ⟨n, m, e1, e2, q⟩ := h
  refine op_shrN pins s σ H x y v u Q I rx ry ⟨(n : Int), m, e1, e2, ?_⟩
  rw [← PySem.W.kbt_cast, ← Int.natCast_ediv]
  exact q
theorem op_xorNN : OpR X (binaryOp .BitXor) (fun x y H Q => ∃ n m : Nat, x = nI n ∧ y = nI m ∧ Q (nI (n ^^^ m)) H) := by
  intro pins s σ H x y v u Q I rx ry h
  obtain ⟨n, m, e1, e2, q⟩ := h
  refine op_xor pins s σ H x y v u Q I rx ry ⟨(n : Int), (m : Int), e1, e2, ?_⟩
  show Q (V.int (Builtin.bitXor (n : Int) (m : Int))) H
  rw [Bits.bitXor_pp (Int.natCast_nonneg _) (Int.natCast_nonneg _), Int.toNat_natCast, Int.toNat_natCast]
  exact q
theorem xor_toNat (a b : Bool) : a.toNat ^^^ b.toNat = (a ^^ b).toNat := by cases a <;> cases b <;> rfl
theorem op_xorB : OpR X (binaryOp .BitXor) (fun x y H Q => ∃ a b : Bool, x = bV a ∧ y = bV b ∧ Q (bV (a ^^ b)) H) := by
  intro pins s σ H x y v u Q I rx ry h
  obtain ⟨a, b, e1, e2, q⟩ := h
  refine op_xorNN pins s σ H x y v u Q I rx ry ⟨_, _, e1, e2, ?_⟩
  rw [xor_toNat]
  exact q
/-- a bit as a test -/
def tBit (te : TE) : TT := fun σ H Q => te σ H fun x H1 => ∃ b : Bool, x = bV b ∧ Q b H1
theorem pt_bit {e : Expr} {te : TE} (h : PE X e te) (he : ∀ whole, isTrue e X.env whole = (do let v ← whole; standAt e.pos; holding [v] (truthy v)) := by intro _; rfl) : PT X e (tBit te) := by
  have r := pt_truth (X := X) (PE.imp (t' := fun σ H Q => ∃ R' : VK, te σ H R' ∧ ∀ y H1, R' y H1 → Q y H1) ⟨fun pins s σ H Q I ⟨R', h1, h2⟩ => thn (h.run pins s σ H R' I h1) fun v s1 ⟨y, H1, I1, r1, q1⟩ => ⟨y, H1, I1, r1, h2 y H1 q1⟩⟩ fun _ _ _ z => z) he
  refine PT.imp r fun σ H Q z => ⟨_, z, fun y H1 ⟨b, e, q⟩ => ⟨b, ?_, q⟩⟩
  rw [e]
  show b = (((b.toNat : Nat) : Int) != 0)
  cases b <;> rfl
end
def sg (b : Bool) : Str := if b then "1" else "0"
theorem sg_len (b : Bool) : (sg b).length = 1 := by cases b <;> decide +kernel
theorem sg_tl (b : Bool) : TL.tl (sg b) = [if b then 49 else 48] := by cases b <;> decide +kernel
theorem joinL_nil : ∀ l : List (List Nat), TL.joinL [] l = l.flatten
  | [] => rfl
  | [p] => by simp [TL.joinL]
  | p :: q :: r => by
    show p ++ ([] ++ TL.joinL [] (q :: r)) = _
    rw [joinL_nil (q :: r)]
    simp
theorem tl_inj {a b : Str} (h : TL.tl a = TL.tl b) : a = b := by
  obtain ⟨x⟩ := a
  obtain ⟨y⟩ := b
  have e : x.toList = y.toList := h
  rw [Array.toList_inj.mp e]
theorem tl_txt (bs : List Bool) : TL.tl (txt bs) = bs.map fun b => if b then 49 else 48 := by
  unfold txt TL.tl
  simp
theorem join_txt (bs : List Bool) : Txt.join "" (bs.map sg) = txt bs := by
  apply tl_inj
  rw [TL.join_eq, TL.tl_join, tl_txt]
  have e : TL.tl ("" : Str) = [] := by decide +kernel
  rw [e, joinL_nil, List.map_map]
  induction bs with
  | nil => rfl
  | cons b r ih =>
    rw [List.map_cons, List.flatten_cons, List.map_cons]
    show TL.tl (sg b) ++ _ = _
    rw [sg_tl]
    exact congrArg _ ih
theorem sum_len (bs : List Bool) : ((bs.map sg).map (·.length)).sum = bs.length := by
  induction bs with
  | nil => rfl
  | cons b r ih => rw [List.map_cons, List.map_cons, List.sum_cons, ih, sg_len, List.length_cons]; omega
section
variable {P : Program} {w : World} {K : PySem.W.Frag} {mg : Str → Option Value} {base : Heap} {f : Addr} {fd : FuncData}
theorem ok_gb (U : Fun K "gray_bit" "gray_bit" s_gb f fd) : FnOk P w K mg base CX0 1 f fd ["value", "plane"] spGray := by
  refine U.ok (N := ["value", "plane"]) ⟨rfl, rfl, rfl, by decide +kernel, rfl, by decide +kernel, by decide +kernel⟩ (fun vs H Q E h => ?_) (fun cdv A outer s H vs Q E hr h => ?_)
  · obtain ⟨v, pl, rfl, _⟩ := h
    rfl
  · obtain ⟨v, pl, rfl, hp, k⟩ := h
    refine ⟨_, pss_one (ps_ret (pe_op op_odd (pe_op op_xorNN (pe_op op_shrNN (pv 0) (pv 1)) (pe_op op_shrNN (pv 0) (pe_op op_addN (pv 1) pe_int))) pe_int)), ?_⟩
    refine ⟨_, rfl, _, rfl, _, _, rfl, rfl, _, rfl, _, rfl, pl, 1, rfl, rfl, _, _, rfl, rfl, _, _, rfl, rfl, _, rfl, rfl, ?_⟩
    rw [gray_xor]
    exact k
abbrev nVo : List Str := ["grays", "value", "bit", "gray"]
theorem sc_vo : FnScope nVo ["grays"] (defScope s_vo) := ⟨rfl, rfl, rfl, by decide +kernel, rfl, by decide +kernel, by decide +kernel⟩
theorem fold_snoc {bs : List Bool} {i : Nat} {b : Bool} (h : bs[i]? = some b) : (bs.take (i + 1)).foldl vStep (0, false) = vStep ((bs.take i).foldl vStep (0, false)) b := by
  rw [← take_snoc h, List.foldl_append]
  rfl
theorem ok_vo (U : Fun K "value_of" "value_of" s_vo f fd) : FnOk P w K mg base CX0 1 f fd ["grays"] spValueOf := by
  refine U.ok sc_vo (fun vs H Q E h => ?_) (fun cdv A outer s H vs Q E hr h => ?_)
  · obtain ⟨a, bs, rfl, _⟩ := h
    rfl
  · obtain ⟨a, bs, rfl, ha, hl, k⟩ := h
    refine ⟨_, pss_cons (ps_set (i := 1) sc_vo.nd rfl (.inl rfl) pe_int) (pss_cons (ps_set (i := 2) sc_vo.nd rfl (.inl rfl) pe_int)
      (pss_cons (ps_for PassesOwn.never rfl (pi_list (pv 0)) (pg_name (i := 3) sc_vo.nd rfl (.inl rfl))
        (pss_cons (ps_set (i := 2) sc_vo.nd rfl (.inl rfl) (pe_op op_xorB (pv 2) (pv 3))) (pss_one (ps_set (i := 1) sc_vo.nd rfl (.inl rfl) (pe_op op_addN (pe_op op_mulN pe_int (pv 1)) (pv 2))))))
      (pss_one (ps_ret (pv 1))))), ?_⟩
    refine ⟨_, rfl, a, rfl, ⟨_, SqL.of ha⟩, for_list (K := K) (a := a) (xs := bitsV bs) (fun i σ H' => H' = H ∧ ∃ v3, σ = [some (.ref a), some (nI ((bs.take i).foldl vStep (0, false)).1), some (bV ((bs.take i).foldl vStep (0, false)).2), v3]) ⟨rfl, _, rfl⟩ (fun i σ H' _ ⟨e, _⟩ => by rw [e]; exact SqL.of ha) ?_ ?_⟩
    · rintro i x σ H' hx ⟨rfl, v3, rfl⟩
      rw [List.getElem?_map] at hx
      cases hb : bs[i]? with
      | none => rw [hb] at hx; cases hx
      | some b =>
        rw [hb] at hx
        obtain rfl := Option.some.inj hx
        refine ⟨_, rfl, _, rfl, _, b, rfl, rfl, ?_⟩
        refine ⟨_, rfl, 2, _, rfl, rfl, by decide, _, rfl, _, _, rfl, rfl, ?_⟩
        rw [fold_snoc hb]
        exact ⟨rfl, _, rfl⟩
    · rintro σ H' ⟨rfl, v3, rfl⟩
      refine ⟨_, rfl, ?_⟩
      have e : (bitsV bs).length = bs.length := List.length_map ..
      rw [e, List.take_length]
      exact k
abbrev nSb : List Str := ["picture", "channel", "pixel", "plane", "middle", "side"]
theorem sc_sb : FnScope nSb ["picture", "channel", "pixel", "plane"] (defScope s_sb) := ⟨rfl, rfl, rfl, by decide +kernel, rfl, by decide +kernel, by decide +kernel⟩
theorem ok_sb (U : Fun K "stored_bit" "stored_bit" s_sb f fd) (T : Txt K mg) (DG : Dfn P w K mg base 1 "gray_bit" ["value", "plane"] spGray) (DV : Mth P w K mg base 1 (CP K) "value" ["self", "channel", "pixel"] (spValue K)) :
    FnOk P w K mg base CX0 2 f fd ["picture", "channel", "pixel", "plane"] (spStoredBit K) := by
  refine U.ok sc_sb (fun vs H Q E h => ?_) (fun cdv A outer s H vs Q E hr h => ?_)
  · obtain ⟨F, p, R, ch, px, pl, _, _, _, _, _, rfl, _⟩ := h
    rfl
  · obtain ⟨F, p, R, ch, px, pl, O, hp, hc, hx, hl, rfl, k⟩ := h
    refine ⟨_, pss_cons (ps_if (pt_cmpR op_eq (pe_pc T (pv 0)) pe_int (nomark _)) (pss_one (ps_ret (pe_fn DG hr (pa_cons (pe_mt DV T.clP hr (pv 0) (pa_cons pe_int (pa_cons (pv 2) pa_nil))) (pa_cons (pv 3) pa_nil))))) pss_nil)
      (pss_cons (ps_set (i := 4) sc_sb.nd rfl (.inl rfl) (pe_fn DG hr (pa_cons (pe_mt DV T.clP hr (pv 0) (pa_cons pe_int (pa_cons (pv 2) pa_nil))) (pa_cons (pv 3) pa_nil))))
      (pss_cons (ps_if (pt_cmpR op_eq (pv 1) pe_int (nomark _)) (pss_one (ps_ret (pv 4))) pss_nil)
      (pss_cons (ps_set (i := 5) sc_sb.nd rfl (.inl rfl) (pe_ifExp (pt_cmpR op_eq (pv 1) pe_int (nomark _)) pe_int pe_int))
      (pss_one (ps_ret (pe_op op_xorB (pe_fn DG hr (pa_cons (pe_mt DV T.clP hr (pv 0) (pa_cons (pv 5) (pa_cons (pv 2) pa_nil))) (pa_cons (pv 3) pa_nil))) (pv 4))))))), ?_⟩
    obtain ⟨dx, q, h1, h2⟩ := id hp
    have d2 := O.d2
    refine ⟨_, rfl, p, F, q, dx, rfl, h1, rfl, _, rfl, ?_⟩
    have hc3 := O.c1
    by_cases c1 : F.c = 1
    · rw [decide_eq_true (show nI F.c = V.int 1 by rw [c1]; rfl)]
      refine iteT ?_
      refine ⟨_, rfl, p, dx, _, rfl, h1, (fP_noM F q).1, _, rfl, F, p, R, 0, px, hp, by omega, hx, rfl, ?_⟩
      refine ⟨_, rfl, _, pl, rfl, by omega, ?_⟩
      unfold storedB at k
      rw [if_pos c1] at k
      exact k
    · rw [decide_eq_false (show ¬ nI F.c = V.int 1 by intro e; injection e with e; omega)]
      refine iteF ?_
      have c3 : F.c = 3 := by omega
      refine ⟨_, rfl, p, dx, _, rfl, h1, (fP_noM F q).1, _, rfl, F, p, R, 1, px, hp, by omega, hx, rfl, ?_⟩
      refine ⟨_, rfl, _, pl, rfl, by omega, ?_⟩
      unfold storedB at k
      rw [if_neg c1] at k
      refine ⟨_, rfl, rfl, _, rfl, ?_⟩
      by_cases z : ch = 0
      · rw [decide_eq_true (show nI ch = V.int 0 by rw [z]; rfl)]
        rw [if_pos z] at k
        exact ⟨_, rfl, k⟩
      · rw [decide_eq_false (show ¬ nI ch = V.int 0 by intro e; injection e with e; omega)]
        rw [if_neg z] at k
        refine iteF ?_
        refine ⟨_, rfl, rfl, _, rfl, ?_⟩
        by_cases y : ch = 1
        · rw [decide_eq_true (show nI ch = V.int 1 by rw [y]; rfl)]
          rw [if_pos y] at k
          refine iteT ?_
          refine ⟨_, rfl, p, dx, _, rfl, h1, (fP_noM F q).1, _, rfl, _, rfl, F, p, R, 0, px, hp, by omega, hx, rfl, ?_⟩
          exact ⟨_, rfl, _, pl, rfl, by omega, _, rfl, _, _, rfl, rfl, k⟩
        · rw [decide_eq_false (show ¬ nI ch = V.int 1 by intro e; injection e with e; omega)]
          rw [if_neg y] at k
          refine iteF ?_
          refine ⟨_, rfl, p, dx, _, rfl, h1, (fP_noM F q).1, _, rfl, _, rfl, F, p, R, 2, px, hp, by omega, hx, rfl, ?_⟩
          exact ⟨_, rfl, _, pl, rfl, by omega, _, rfl, _, _, rfl, rfl, k⟩
abbrev nPb : List Str := ["frame", "picture", "key", "channel", "tile", "plane", "pixel"]
theorem sc_pb : FnScope nPb ["frame", "picture", "key"] (defScope s_pb) := ⟨rfl, rfl, rfl, by decide +kernel, rfl, by decide +kernel, by decide +kernel⟩
theorem ok_pb (U : Fun K "packet_bits" "packet_bits" s_pb f fd) (T : Txt K mg) (DF : Dfn P w K mg base 1 "fits_frame" ["frame", "picture"] (spFits K)) (DK : Dfn P w K mg base 3 "check_key" ["frame", "key"] (spCheckKey K))
    (DS : Dfn P w K mg base 2 "stored_bit" ["picture", "channel", "pixel", "plane"] (spStoredBit K)) (DT : Dfn P w K mg base 4 "tile_pixels" ["frame", "tile"] (spPixels K)) :
    FnOk P w K mg base CX0 5 f fd ["frame", "picture", "key"] (spPacketBits K) := by
  refine U.ok sc_pb (fun vs H Q E h => ?_) (fun cdv A outer s H vs Q E hr h => ?_)
  · obtain ⟨F, f, p, b, R, k, _, _, _, _, _, rfl, _⟩ := h
    rfl
  · obtain ⟨F, f, p, b, R, k, O, hf, hp, ok, hb, rfl, q⟩ := h
    refine ⟨_, pss_cons (ps_if (pt_not (pt_val (pe_fn DF hr (pa_cons (pv 0) (pa_cons (pv 1) pa_nil))))) pss_never pss_nil)
      (pss_cons (ps_expr (pe_fn DK hr (pa_cons (pv 0) (pa_cons (pv 2) pa_nil))))
      (pss_cons (ps_asg (pv 2) (pg_tup (by rfl) (pgs_cons (pg_name (i := 3) sc_pb.nd rfl (.inr rfl)) (pgs_cons (pg_name (i := 4) sc_pb.nd rfl (.inl rfl)) (pgs_cons (pg_name (i := 5) sc_pb.nd rfl (.inr rfl)) pgs_nil)))))
      (pss_one (ps_ret (pe_join pe_str (pe_lc (own := [("pixel", 6)]) (g := gName 6) (tt := tYes) rfl sc_pb.nd (pi_list (pe_fn DT hr (pa_cons (pv 0) (pa_cons (pv 4) pa_nil)))) (blkOk_by (N := nPb) (sc := defScope s_pb) (by decide +kernel))
        (fun _ _ _ _ _ => pg_name (i := 6) sc_pb.nd rfl (.inl rfl)) (fun _ _ _ _ _ => pts_nil) (fun _ _ _ _ _ => pe_ifExp (pt_bit (pe_fn DS hr (pa_cons (pv 1) (pa_cons (pv 3) (pa_cons (pv 6) (pa_cons (pv 5) pa_nil)))))) pe_str pe_str))))))), ?_⟩
    obtain ⟨k1, k2, k3⟩ := id ok
    refine ⟨_, rfl, _, rfl, F, f, p, R, hf, hp, rfl, _, rfl, ?_⟩
    refine iteF ?_
    refine ⟨_, rfl, _, rfl, F, f, b, k, O, ok, hf, hb, rfl, ?_⟩
    refine ⟨_, rfl, b, _, rfl, SqT.of hb, rfl, _, _, rfl, _, _, rfl, _, _, rfl, rfl, ?_⟩
    refine ⟨⟨_, rfl⟩, ?_⟩
    refine ⟨_, rfl, _, rfl, F, f, k.tl, O, k2, hf, rfl, fun H1 a s1 na ha => ?_⟩
    refine ⟨a, rfl, ⟨_, SqL.of ha⟩, fun D hD => ?_⟩
    refine it_lst (K := K) (a := a) (xs := intsV (F.pix k.tl)) (fun i H' => LA H1 D H' (((bitsB F R k).take i).map fun b => V.str (sg b))) (LA.new (Same.refl _) hD) (fun i H' L => SqL.of (L.same _ _ ha)) (fun i x H' hx L => ?_) (fun H' L => ?_)
    · obtain ⟨px, hpx, rfl⟩ := intsV_get hx
      have hlt : px < F.np := O.mem_lt k2 (List.mem_iff_getElem?.mpr ⟨i, hpx⟩)
      have hbit : (bitsB F R k)[i]? = some (storedB F.c (fun a => R a px) k.ch k.pl) := by
        unfold bitsB
        rw [List.getElem?_map, hpx]
        rfl
      refine ⟨rfl, _, rfl, _, rfl, _, rfl, _, rfl, F, p, R, k.ch, px, k.pl, O, (hp.same s1).same L.same, k1, hlt, k3, rfl, _, rfl, ?_⟩
      have fin : ∃ acc, H' D = some (.lst acc) ∧ acc.length < sizeLine ∧ LA H1 D (upd H' D (.lst (acc ++ [V.str (sg (storedB F.c (fun a => R a px) k.ch k.pl))]))) (((bitsB F R k).take (i + 1)).map fun b => V.str (sg b)) := by
        refine ⟨_, L.at_, small_of (m := 256) ?_, L.app ?_⟩
        · rw [List.length_map, List.length_take]
          have := O.pix_len k.tl
          have e : (bitsB F R k).length = (F.pix k.tl).length := List.length_map ..
          omega
        · rw [← take_snoc hbit, List.map_append]
          rfl
      cases hbb : storedB F.c (fun a => R a px) k.ch k.pl with
      | true => rw [hbb] at fin; exact fin
      | false => rw [hbb] at fin; exact fin
    · have el : (intsV (F.pix k.tl)).length = (bitsB F R k).length := by unfold bitsB; simp
      rw [el, List.take_length] at L
      refine ⟨_, D, (bitsB F R k).map sg, rfl, rfl, .inl (SqL.of ?_), ?_, ?_⟩
      · rw [List.map_map]
        exact L.at_
      · rw [sum_len]
        have := O.pix_len k.tl
        have e : (bitsB F R k).length = (F.pix k.tl).length := List.length_map ..
        have z : ("" : Str).length = 0 := by decide +kernel
        rw [z]
        omega
      · rw [join_txt]
        exact q H' (s1.trans L.same)
end
end PP
/-! ## 13. grays.py: the table -/
namespace PP
open PySem PySem.Spec PyProof.Rows L2
abbrev rowV (np : Nat) (g : Nat → Bool) : List V := (List.range np).map fun p => bV (g p)
theorem cp_inj {a b c e : Nat} (h : cp a b = cp c e) : a = c ∧ b = e := by
  unfold cp at h
  injection h with h1 h2
  injection h2 with h2 _
  injection h1 with h1
  injection h2 with h2
  omega
/-- a table of rows that grew out of H0 -/
structure TabI (H0 H : Hp) (t : Addr) (kvs : List (List Key × V)) (fa : Nat → Nat → Addr) (np : Nat) (dom : Nat → Nat → Prop) (S : Nat → Nat → Nat → Bool) : Prop where
  same : Same H0 H
  free : H0 t = none
  at_ : H t = some (.dT kvs)
  key : ∀ ch pl, dom ch pl → valV kvs (cp ch pl) = some (.ref (fa ch pl))
  new : ∀ ch pl, dom ch pl → H0 (fa ch pl) = none
  row : ∀ ch pl, dom ch pl → H (fa ch pl) = some (.lst (rowV np (S ch pl)))
  inj : ∀ a b c e, dom a b → dom c e → fa a b = fa c e → a = c ∧ b = e
section
variable {H0 H H' : Hp} {t : Addr} {kvs : List (List Key × V)} {fa : Nat → Nat → Addr} {np : Nat} {dom : Nat → Nat → Prop} {S S' : Nat → Nat → Nat → Bool}
theorem TabI.grow (h : TabI H0 H t kvs fa np dom S) (s : Same H H') : TabI H0 H' t kvs fa np dom S :=
  ⟨h.same.trans s, h.free, s _ _ h.at_, h.key, h.new, fun ch pl d => s _ _ (h.row ch pl d), h.inj⟩
theorem TabI.cong (h : TabI H0 H t kvs fa np dom S) (e : ∀ ch pl p, dom ch pl → S' ch pl p = S ch pl p) : TabI H0 H t kvs fa np dom S' :=
  ⟨h.same, h.free, h.at_, h.key, h.new, fun ch pl d => by
    rw [h.row ch pl d]
    have : rowV np (S ch pl) = rowV np (S' ch pl) := List.map_congr_left fun p _ => by rw [e ch pl p d]
    rw [this], h.inj⟩
theorem TabI.add {r c0 p0 : Nat} (h : TabI H0 H t kvs fa np dom S) (s : Same H H') (hr : H' r = some (.lst (rowV np fun _ => false))) (nr : H r = none) (hS : ∀ p, S c0 p0 p = false) :
    TabI H0 (upd H' t (.dT (putK kvs (cp c0 p0) (.ref r)))) t (putK kvs (cp c0 p0) (.ref r)) (fun ch pl => if ch = c0 ∧ pl = p0 then r else fa ch pl) np (fun ch pl => dom ch pl ∨ (ch = c0 ∧ pl = p0)) S := by
  have ht : H' t = some (.dT kvs) := s _ _ h.at_
  have nrt : r ≠ t := ne_of hr ht (by intro z; cases z)
  have nat : ∀ ch pl, dom ch pl → fa ch pl ≠ t := fun ch pl d => ne_of (s _ _ (h.row ch pl d)) ht (by intro z; cases z)
  have nar : ∀ ch pl, dom ch pl → fa ch pl ≠ r := fun ch pl d => ne_of_none (h.row ch pl d) nr
  refine ⟨Same.put (h.same.trans s) h.free, h.free, upd_same, fun ch pl d => ?_, fun ch pl d => ?_, fun ch pl d => ?_, fun a b c e d1 d2 q => ?_⟩
  · rw [valV_put]
    by_cases e : ch = c0 ∧ pl = p0
    · rw [if_pos e, if_pos (by rw [e.1, e.2])]
    · rw [if_neg e, if_neg fun z => e (cp_inj z)]
      exact h.key ch pl (d.resolve_right e)
  · by_cases e : ch = c0 ∧ pl = p0
    · show H0 (if _ then _ else _) = _
      rw [if_pos e]
      exact h.same.free nr
    · show H0 (if _ then _ else _) = _
      rw [if_neg e]
      exact h.new ch pl (d.resolve_right e)
  · by_cases e : ch = c0 ∧ pl = p0
    · show upd H' t _ (if _ then _ else _) = _
      rw [if_pos e, upd_ne nrt, hr, e.1, e.2]
      have : (rowV np fun _ => false) = rowV np (S c0 p0) := List.map_congr_left fun p _ => by rw [hS p]
      rw [this]
    · show upd H' t _ (if _ then _ else _) = _
      rw [if_neg e, upd_ne (nat ch pl (d.resolve_right e))]
      exact s _ _ (h.row ch pl (d.resolve_right e))
  · by_cases e1 : a = c0 ∧ b = p0
    · by_cases e2 : c = c0 ∧ e = p0
      · exact ⟨e1.1.trans e2.1.symm, e1.2.trans e2.2.symm⟩
      · have q : (if a = c0 ∧ b = p0 then r else fa a b) = (if c = c0 ∧ e = p0 then r else fa c e) := q
        rw [if_pos e1, if_neg e2] at q
        exact absurd q.symm (nar c e (d2.resolve_right e2))
    · by_cases e2 : c = c0 ∧ e = p0
      · have q : (if a = c0 ∧ b = p0 then r else fa a b) = (if c = c0 ∧ e = p0 then r else fa c e) := q
        rw [if_neg e1, if_pos e2] at q
        exact absurd q (nar a b (d1.resolve_right e1))
      · have q : (if a = c0 ∧ b = p0 then r else fa a b) = (if c = c0 ∧ e = p0 then r else fa c e) := q
        rw [if_neg e1, if_neg e2] at q
        exact h.inj a b c e (d1.resolve_right e1) (d2.resolve_right e2) q
theorem TabI.set {ch pl : Nat} (h : TabI H0 H t kvs fa np dom S) (d : dom ch pl) (e : ∀ a b p, dom a b → ¬ (a = ch ∧ b = pl) → S' a b p = S a b p) : TabI H0 (upd H (fa ch pl) (.lst (rowV np (S' ch pl)))) t kvs fa np dom S' := by
  have nt : t ≠ fa ch pl := ne_of h.at_ (h.row ch pl d) (by intro z; cases z)
  refine ⟨Same.put h.same (h.new ch pl d), h.free, by rw [upd_ne nt]; exact h.at_, h.key, h.new, fun a b d' => ?_, h.inj⟩
  by_cases q : a = ch ∧ b = pl
  · rw [q.1, q.2, upd_same]
  · rw [upd_ne fun z => q (h.inj a b ch pl d' d z), h.row a b d']
    have : rowV np (S a b) = rowV np (S' a b) := List.map_congr_left fun p _ => by rw [e a b p d' q]
    rw [this]
theorem TabI.tab {F : Fr} (h : TabI H0 H t kvs fa F.np (fun ch pl => ch < F.c ∧ pl < F.d) S) : TabA H t F S :=
  ⟨kvs, h.at_, fun ch pl h1 h2 => ⟨fa ch pl, h.key ch pl ⟨h1, h2⟩, h.row ch pl ⟨h1, h2⟩⟩⟩
end
theorem rowV_set {np i : Nat} (hi : i < np) (f g : Nat → Bool) (h : ∀ p, g p = if p = i then true else f p) : (rowV np f).set i (V.int 1) = rowV np g := by
  refine List.ext_getElem (by simp) fun j h1 h2 => ?_
  rw [List.getElem_set]
  have hj : j < np := by simpa using h2
  rw [List.getElem_map, List.getElem_map, List.getElem_range]
  rw [h j]
  by_cases e : i = j
  · rw [if_pos e, if_pos e.symm]
    rfl
  · rw [if_neg e, if_neg (Ne.symm e)]
theorem ixN_nat {n j : Nat} (h : j < n) : ixN n (j : Int) = some j := by
  unfold ixN
  rw [if_pos (by omega), if_pos (by omega)]
  simp
theorem sgn_eq (b : Bool) : decide (V.str ⟨#[if b then 49 else 48]⟩ = V.str "1") = b := by cases b <;> decide +kernel
theorem txt_get {bs : List Bool} {j c : Nat} (h : (txt bs).cps[j]? = some c) : ∃ b, bs[j]? = some b ∧ c = if b then 49 else 48 := by
  unfold txt at h
  rw [List.getElem?_toArray, List.getElem?_map] at h
  cases e : bs[j]? with
  | none => rw [e] at h; cases h
  | some b => rw [e] at h; exact ⟨b, rfl, (Option.some.inj h).symm⟩
theorem txt_size (bs : List Bool) : (txt bs).cps.size = bs.length := by unfold txt; simp
theorem setsAt_snoc {zs : List (Nat × Bool)} {j : Nat} {q : Nat × Bool} (h : zs[j]? = some q) (p : Nat) : setsAt (zs.take (j + 1)) p = (setsAt (zs.take j) p || (q.1 == p && q.2)) := by
  unfold setsAt
  rw [← take_snoc h, List.any_append]
  simp
theorem marks_snoc {F : Fr} {P : Ky → List Bool} {ks : List Ky} {i : Nat} {k : Ky} (h : ks[i]? = some k) (ch pl p : Nat) : marks F P (ks.take (i + 1)) ch pl p = (marks F P (ks.take i) ch pl p || ((k.ch == ch && k.pl == pl) && setsAt ((F.pix k.tl).zip (P k)) p)) := by
  unfold marks
  rw [← take_snoc h, List.any_append]
  simp
theorem rep_row (np : Nat) : (List.replicate np [V.int 0]).flatten = rowV np fun _ => false := by
  refine List.ext_getElem? fun i => ?_
  induction np generalizing i with
  | zero => rfl
  | succ n ih =>
    rw [List.replicate_succ, List.flatten_cons]
    cases i with
    | zero =>
      rw [List.getElem?_map, List.getElem?_range (by omega)]
      rfl
    | succ i =>
      have e1 : ([V.int 0] ++ (List.replicate n [V.int 0]).flatten)[i + 1]? = ((List.replicate n [V.int 0]).flatten)[i]? := by simp
      rw [e1, ih]
      by_cases h : i < n
      · rw [List.getElem?_map, List.getElem?_map, List.getElem?_range h, List.getElem?_range (by omega)]
        rfl
      · rw [List.getElem?_eq_none (by simp; omega), List.getElem?_eq_none (by simp; omega)]
section
variable {P : Program} {w : World} {K : PySem.W.Frag} {mg : Str → Option Value} {base : Heap} {f : Addr} {fd : FuncData}
abbrev nSt : List Str := ["frame", "packets", "table", "channel", "plane", "key", "tile", "row", "pixel", "sign"]
theorem sc_st : FnScope nSt ["frame", "packets"] (defScope s_st) := ⟨rfl, rfl, rfl, by decide +kernel, rfl, by decide +kernel, by decide +kernel⟩
theorem ok_st (U : Fun K "_stored" "_stored" s_st f fd) (T : Txt K mg) (DX : Mth P w K mg base 1 (CF K) "pixels" ["self"] (spFr K Fr.np)) (DA : Dfn P w K mg base 3 "all_keys" ["frame"] (spAllKeys K)) (DT : Dfn P w K mg base 4 "tile_pixels" ["frame", "tile"] (spPixels K)) :
    FnOk P w K mg base CX0 5 f fd ["frame", "packets"] (spStored K) := by
  refine U.ok sc_st (fun vs H Q E h => ?_) (fun cdv A outer s H vs Q E hr h => ?_)
  · obtain ⟨F, f, d, P, _, _, _, _, rfl, _⟩ := h
    rfl
  · obtain ⟨F, f, d, Pk, O, hf, hd, hlen, rfl, q⟩ := h
    have hu := hu_of hr
    refine ⟨_, pss_cons (ps_set (i := 2) sc_st.nd rfl (.inl rfl) pe_dnewT)
      (pss_cons (ps_for PassesOwn.never rfl (pi_rngN T.range (pe_fc T (pv 0))) (pg_name (i := 3) sc_st.nd rfl (.inl rfl))
        (pss_one (ps_for PassesOwn.never rfl (pi_rngN T.range (pe_fd T (pv 0))) (pg_name (i := 4) sc_st.nd rfl (.inl rfl))
          (pss_one (ps_dput hu (pv 2) (pe_tup (pa_cons (pv 3) (pa_cons (pv 4) pa_nil))) (pe_op op_rep (pe_lst (pa_cons pe_int pa_nil)) (pe_mt0 DX T.clF hr (pv 0))) rfl)))))
      (pss_cons (ps_for PassesOwn.never rfl (pi_list (pe_fn DA hr (pa_cons (pv 0) pa_nil))) (pg_name (i := 5) sc_st.nd rfl (.inl rfl))
        (pss_cons (ps_asg (pv 5) (pg_tup (by rfl) (pgs_cons (pg_name (i := 3) sc_st.nd rfl (.inl rfl)) (pgs_cons (pg_name (i := 6) sc_st.nd rfl (.inl rfl)) (pgs_cons (pg_name (i := 4) sc_st.nd rfl (.inl rfl)) pgs_nil)))))
        (pss_cons (ps_set (i := 7) sc_st.nd rfl (.inl rfl) (pe_dget hu (pv 2) (pe_tup (pa_cons (pv 3) (pa_cons (pv 4) pa_nil))) (fun _ _ => rfl)))
        (pss_one (ps_for PassesOwn.never rfl (pi_zipS (by rfl) T.zip (pa_cons (pe_fn DT hr (pa_cons (pv 0) (pa_cons (pv 6) pa_nil))) (pa_cons (pe_dget hu (pv 1) (pv 5) (fun _ _ => rfl)) pa_nil)))
            (pg_tup (by rfl) (pgs_cons (pg_name (i := 8) sc_st.nd rfl (.inl rfl)) (pgs_cons (pg_name (i := 9) sc_st.nd rfl (.inl rfl)) pgs_nil)))
          (pss_one (ps_if (pt_cmpR op_eq (pv 9) pe_str (nomark _)) (pss_one (ps_asg pe_int (pg_sub (pv 7) (pv 8) set_list))) pss_nil)))))))
      (pss_one (ps_ret (pv 2))))), ?_⟩
    have c3 := O.c3
    have d2 := O.d2
    have n2 := O.np2
    intro t ht
    have s0 : Same H (upd H t (.dT [])) := Same.new ht
    refine ⟨_, rfl, f, F, rfl, hf.same s0, F.c, rfl, by omega, ?_⟩
    refine for_rng (fun c0 σ H' => ∃ v3 v4 kvs fa, σ = [some (.ref f), some (.ref d), some (.ref t), v3, v4, none, none, none, none, none] ∧ kvs.length ≤ c0 * F.d ∧ TabI H H' t kvs fa F.np (fun ch pl => ch < c0 ∧ pl < F.d) (fun _ _ _ => false)) ?_ ?_ ?_
    · exact ⟨none, none, [], fun _ _ => 0, rfl, Nat.zero_le _, ⟨s0, ht, upd_same, fun ch pl h => absurd h.1 (Nat.not_lt_zero _), fun ch pl h => absurd h.1 (Nat.not_lt_zero _), fun ch pl h => absurd h.1 (Nat.not_lt_zero _), fun a b c e h => absurd h.1 (Nat.not_lt_zero _)⟩⟩
    · rintro c0 σ H' hc0 ⟨v3, v4, kvs, fa, rfl, hk, I⟩
      refine ⟨_, rfl, f, F, rfl, hf.same I.same, F.d, rfl, by omega, ?_⟩
      refine for_rng (fun p0 σ H2 => ∃ v4 kvs fa, σ = [some (.ref f), some (.ref d), some (.ref t), some (nI c0), v4, none, none, none, none, none] ∧ kvs.length ≤ c0 * F.d + p0 ∧ TabI H H2 t kvs fa F.np (fun ch pl => ch < c0 ∧ pl < F.d ∨ ch = c0 ∧ pl < p0) (fun _ _ _ => false)) ?_ ?_ ?_
      · refine ⟨v4, kvs, fa, rfl, hk, ⟨I.same, I.free, I.at_, fun ch pl h => I.key ch pl (h.resolve_right fun z => absurd z.2 (Nat.not_lt_zero _)), fun ch pl h => I.new ch pl (h.resolve_right fun z => absurd z.2 (Nat.not_lt_zero _)), fun ch pl h => I.row ch pl (h.resolve_right fun z => absurd z.2 (Nat.not_lt_zero _)), fun a b c e h1 h2 => I.inj a b c e (h1.resolve_right fun z => absurd z.2 (Nat.not_lt_zero _)) (h2.resolve_right fun z => absurd z.2 (Nat.not_lt_zero _))⟩⟩
      · rintro p0 σ H2 hp0 ⟨v4, kvs, fa, rfl, hk, I⟩
        obtain ⟨dx, hf0⟩ := hf.same I.same
        refine ⟨by show 1 ≤ sizeLine; decide, fun l hl => ?_⟩
        have hf1 : upd H2 l (.lst [V.int 0]) f = some (.ins (CF K) dx (fsF F)) := (Same.new hl) _ _ hf0
        refine ⟨_, rfl, f, dx, _, rfl, hf1, (fF_noM F).2.2.2, F, f, O, ⟨dx, hf1⟩, rfl, ?_⟩
        refine ⟨l, _, _, rfl, rfl, upd_same, by omega, by omega, ?_, fun r hr' => ?_⟩
        · show 1 * (F.np : Int).toNat ≤ sizeLine
          rw [Int.toNat_natCast, Nat.one_mul]
          exact small_le (m := 256) n2
        refine ⟨_, rfl, _, rfl, _, rfl, by show 2 ≤ sizeLine; decide, fun b hb => ?_⟩
        rw [show ((F.np : Int)).toNat = F.np from Int.toNat_natCast _, rep_row] at hb ⊢
        have nrl : r ≠ l := fun e => by rw [e, upd_same] at hr'; cases hr'
        have nr : H2 r = none := by rw [upd_ne nrl] at hr'; exact hr'
        have nbr : r ≠ b := fun e => by rw [← e, upd_same] at hb; cases hb
        have sm : Same H2 (upd (upd (upd H2 l (.lst [V.int 0])) r (.lst (rowV F.np fun _ => false))) b (.tup [nI c0, nI p0])) := ((Same.new hl).trans (Same.new hr')).trans (Same.new hb)
        have A := I.add (c0 := c0) (p0 := p0) sm (r := r) (by rw [upd_ne nbr, upd_same]) nr (fun _ => rfl)
        refine ⟨t, _, rfl, DPut.t (k := cp c0 p0) (sm _ _ I.at_) upd_same (small_of (m := 1000) ?_), ?_⟩
        · have : c0 * F.d ≤ 3 * 8 := Nat.mul_le_mul (by omega) d2
          omega
        · refine ⟨_, _, _, rfl, ?_, ⟨A.same, A.free, A.at_, fun ch pl h => A.key ch pl ?_, fun ch pl h => A.new ch pl ?_, fun ch pl h => A.row ch pl ?_, fun a b c e h1 h2 => A.inj a b c e ?_ ?_⟩⟩
          · have := length_putK kvs (cp c0 p0) (V.ref r)
            omega
          all_goals omega
      · rintro σ H2 ⟨v4, kvs, fa, rfl, hk, I⟩
        refine ⟨_, _, kvs, fa, rfl, by rw [Nat.add_mul, Nat.one_mul]; omega, ⟨I.same, I.free, I.at_, fun ch pl h => I.key ch pl ?_, fun ch pl h => I.new ch pl ?_, fun ch pl h => I.row ch pl ?_, fun a b c e h1 h2 => I.inj a b c e ?_ ?_⟩⟩
        all_goals omega
    · rintro σ H' ⟨v3, v4, kvs, fa, rfl, hk, I⟩
      refine ⟨_, rfl, F, f, O, hf.same I.same, rfl, fun H1 ka s1 nka ⟨bs, hka, hbs⟩ => ?_⟩
      have I1 := I.grow s1
      have nka' : ∀ ch pl, ch < F.c ∧ pl < F.d → ka ≠ fa ch pl := fun ch pl h e => by
        have := I.row ch pl h
        rw [← e, nka] at this
        cases this
      obtain ⟨kvd, hd1, hd2⟩ := id hd
      refine ⟨ka, rfl, ⟨_, SqL.of hka⟩, for_list (K := K) (a := ka) (xs := bs.map V.ref) (fun i σ H' => ∃ v3 v4 v5 v6 v7 v8 v9, σ = [some (.ref f), some (.ref d), some (.ref t), v3, v4, v5, v6, v7, v8, v9] ∧
        TabI H H' t kvs fa F.np (fun ch pl => ch < F.c ∧ pl < F.d) (marks F Pk (F.keys.take i)) ∧ H' ka = some (.lst (bs.map V.ref)) ∧ Paired (fun b k => H' b = some (.tup (kt k))) bs F.keys) ?_ ?_ ?_ ?_⟩
      · exact ⟨_, _, _, _, _, _, _, rfl, I1.cong fun _ _ _ _ => rfl, hka, hbs⟩
      · rintro i σ H' _ ⟨v3, v4, v5, v6, v7, v8, v9, _, _, h, _⟩
        exact SqL.of h
      · rintro i x σ H2 hx ⟨v3, v4, v5, v6, v7, v8, v9, rfl, J, hka2, hbs2⟩
        obtain ⟨b, hb, rfl⟩ := refs_get hx
        obtain ⟨k, hk1, hk2⟩ := paired_get hbs2 hb
        have ok : F.keyOk k := mem_keys.mp (List.mem_iff_getElem?.mpr ⟨i, hk1⟩)
        obtain ⟨k1, k2, k3⟩ := id ok
        refine ⟨_, rfl, b, _, rfl, SqT.of hk2, rfl, _, _, rfl, _, _, rfl, _, _, rfl, rfl, ?_⟩
        refine ⟨_, rfl, _, rfl, _, rfl, by show 2 ≤ sizeLine; decide, fun e he => ?_⟩
        have s2 : Same H2 (upd H2 e (.tup [nI k.ch, nI k.pl])) := Same.new he
        have J2 := J.grow s2
        refine ⟨t, .ref (fa k.ch k.pl), rfl, ?_, ?_⟩
        · rw [← J2.key k.ch k.pl ⟨k1, k3⟩]
          exact DGet.t (k := cp k.ch k.pl) J2.at_ upd_same
        refine ⟨_, rfl, _, rfl, F, f, k.tl, O, k2, hf.same J2.same, rfl, fun H3 a s3 na ha => ?_⟩
        have J3 := J2.grow s3
        have na' : ∀ ch pl, ch < F.c ∧ pl < F.d → a ≠ fa ch pl := fun ch pl h z => by
          have := J2.row ch pl h
          rw [← z, na] at this
          cases this
        refine ⟨_, rfl, _, rfl, d, .str (txt (Pk k)), rfl, ?_, ?_⟩
        · rw [← hd2 k ok]
          exact DGet.t (k := kk k) (J3.same _ _ hd1) (s3 _ _ (s2 _ _ hk2))
        refine ⟨a, txt (Pk k), _, rfl, SqL.of ha, ?_⟩
        have hl : (intsV (F.pix k.tl)).length = (txt (Pk k)).cps.size := by rw [txt_size, hlen k ok, List.length_map]
        refine for_zipS hl (fun j σ H' => ∃ v8 v9, σ = [some (.ref f), some (.ref d), some (.ref t), some (nI k.ch), some (nI k.pl), some (.ref b), some (nI k.tl), some (.ref (fa k.ch k.pl)), v8, v9] ∧
          TabI H H' t kvs fa F.np (fun ch pl => ch < F.c ∧ pl < F.d) (fun ch pl p => marks F Pk (F.keys.take i) ch pl p || ((k.ch == ch && k.pl == pl) && setsAt (((F.pix k.tl).zip (Pk k)).take j) p)) ∧
          H' a = some (.lst (intsV (F.pix k.tl))) ∧ H' ka = some (.lst (bs.map V.ref)) ∧ Paired (fun b k => H' b = some (.tup (kt k))) bs F.keys) ?_ ?_ ?_ ?_
        · refine ⟨_, _, rfl, J3.cong fun ch pl p _ => ?_, ha, s3 _ _ (s2 _ _ hka2), Paired.mapP hbs2 fun _ _ z => s3 _ _ (s2 _ _ z)⟩
          simp [setsAt]
        · rintro j σ H' ⟨v8, v9, _, _, h, _⟩
          exact SqL.of h
        · rintro j y c T' σ H4 hy hc ⟨v8, v9, rfl, J4, ha4, hka4, hbs4⟩ hT
          obtain ⟨px, hpx, rfl⟩ := intsV_get hy
          obtain ⟨bt, hbt, rfl⟩ := txt_get hc
          have hz : ((F.pix k.tl).zip (Pk k))[j]? = some (px, bt) := by rw [List.getElem?_zip_eq_some]; exact ⟨hpx, hbt⟩
          have hlt : px < F.np := O.mem_lt k2 (List.mem_iff_getElem?.mpr ⟨j, hpx⟩)
          have s5 : Same H4 (upd H4 T' (.tup [nI px, .str ⟨#[if bt then 49 else 48]⟩])) := Same.new hT
          have J5 := J4.grow s5
          refine ⟨T', _, rfl, SqT.of upd_same, rfl, _, _, rfl, _, _, rfl, rfl, ?_⟩
          refine ⟨_, rfl, rfl, _, rfl, ?_⟩
          rw [sgn_eq]
          cases bt with
          | false =>
            refine iteF ?_
            refine ⟨_, _, rfl, J5.cong fun ch pl p _ => ?_, s5 _ _ ha4, s5 _ _ hka4, Paired.mapP hbs4 fun _ _ z => s5 _ _ z⟩
            rw [setsAt_snoc hz]
            simp
          | true =>
            refine iteT ?_
            have hrow := J5.row k.ch k.pl ⟨k1, k3⟩
            refine ⟨_, rfl, _, rfl, fa k.ch k.pl, _, _, px, rfl, rfl, hrow, ixN_nat (by simpa using hlt), ?_⟩
            rw [rowV_set hlt _ (fun p => marks F Pk (F.keys.take i) k.ch k.pl p || ((k.ch == k.ch && k.pl == k.pl) && setsAt (((F.pix k.tl).zip (Pk k)).take (j + 1)) p)) fun p => ?_]
            · have J6 := J5.set (S' := fun ch pl p => marks F Pk (F.keys.take i) ch pl p || ((k.ch == ch && k.pl == pl) && setsAt (((F.pix k.tl).zip (Pk k)).take (j + 1)) p)) (ch := k.ch) (pl := k.pl) ⟨k1, k3⟩ fun a b p _ hne => ?_
              · refine ⟨_, _, rfl, J6, ?_, ?_, ?_⟩
                · rw [upd_ne (na' k.ch k.pl ⟨k1, k3⟩)]
                  exact s5 _ _ ha4
                · rw [upd_ne (nka' k.ch k.pl ⟨k1, k3⟩)]
                  exact s5 _ _ hka4
                · refine Paired.mapP hbs4 fun _ _ z => ?_
                  rw [upd_ne (ne_of (s5 _ _ z) hrow (by intro z; cases z))]
                  exact s5 _ _ z
              · have e : (k.ch == a && k.pl == b) = false := by
                  cases q : (k.ch == a && k.pl == b) with
                  | false => rfl
                  | true =>
                    simp only [Bool.and_eq_true, beq_iff_eq] at q
                    exact absurd ⟨q.1.symm, q.2.symm⟩ hne
                rw [e]
                simp
            · rw [setsAt_snoc hz]
              by_cases e : p = px
              · rw [if_pos e, e]
                simp
              · rw [if_neg e]
                have e' : (px == p) = false := by simp only [beq_eq_false_iff_ne]; exact Ne.symm e
                rw [e']
                simp
        · rintro σ H' ⟨v8, v9, rfl, J4, ha4, hka4, hbs4⟩
          refine ⟨_, _, _, _, _, _, _, rfl, J4.cong fun ch pl p _ => ?_, hka4, hbs4⟩
          have e : (intsV (F.pix k.tl)).length = ((F.pix k.tl).zip (Pk k)).length := by rw [List.length_zip, hlen k ok, List.length_map, Nat.min_self]
          rw [marks_snoc hk1, e, List.take_length]
      · rintro σ H' ⟨v3, v4, v5, v6, v7, v8, v9, rfl, J, _, _⟩
        refine ⟨_, rfl, ?_⟩
        have e : (bs.map V.ref).length = F.keys.length := by rw [List.length_map]; exact Paired.length hbs
        rw [e, List.take_length] at J
        exact q H' t J.same J.tab
end
end PP
/-! ## 14. grays.py: the values; picture_of -/
namespace PP
open PySem PySem.Spec PyProof.Rows L2
theorem downV_get {n i : Nat} {x : V} (h : (downV n)[i]? = some x) : i < n ∧ (planes n)[i]? = some (n - 1 - i) ∧ x = nI (n - 1 - i) := by
  unfold downV at h
  rw [List.getElem?_map] at h
  by_cases hi : i < n
  · rw [List.getElem?_range hi] at h
    obtain rfl := Option.some.inj h
    refine ⟨hi, ?_, ?_⟩
    · unfold planes
      rw [List.getElem?_map, List.getElem?_range hi]
      rfl
    · show V.int _ = V.int _
      congr 1
      omega
  · rw [List.getElem?_eq_none (by simp; omega)] at h
    cases h
theorem downV_len (n : Nat) : (downV n).length = (planes n).length := by unfold downV planes; simp
theorem planes_len (n : Nat) : (planes n).length = n := by unfold planes; simp
theorem ite_tC {b : Bool} {x y : V} {σ : L2.St} {H : Hp} {Q : VK} (h : Q (if b = true then x else y) H) : if b = true then tC x σ H Q else tC y σ H Q := by
  cases b
  · exact h
  · exact h
section
variable {P : Program} {w : World} {K : PySem.W.Frag} {mg : Str → Option Value} {base : Heap} {f : Addr} {fd : FuncData}
abbrev nVs : List Str := ["frame", "table", "channel", "planes", "pixel", "plane", "other", "found"]
theorem sc_vs : FnScope nVs ["frame", "table", "channel"] (defScope s_vs) := ⟨rfl, rfl, rfl, by decide +kernel, rfl, by decide +kernel, by decide +kernel⟩
/-- one bit of the table -/
theorem TabA.bit {H : Hp} {t : Addr} {F : Fr} {S : Nat → Nat → Nat → Bool} (h : TabA H t F S) {ch pl px : Nat} (h1 : ch < F.c) (h2 : pl < F.d) (h3 : px < F.np) {b : Addr} (hb : H b = some (.tup [nI ch, nI pl])) :
    ∃ a, DGet H t (.ref b) (some (.ref a)) ∧ H a = some (.lst ((List.range F.np).map fun p => bV (S ch pl p))) ∧ ((List.range F.np).map fun p => bV (S ch pl p))[px]? = some (bV (S ch pl px)) := by
  obtain ⟨kvs, e, r⟩ := h
  obtain ⟨a, e1, e2⟩ := r ch pl h1 h2
  refine ⟨a, ?_, e2, ?_⟩
  · rw [← e1]
    exact DGet.t (k := cp ch pl) e hb
  · rw [List.getElem?_map, List.getElem?_range h3]
    rfl
theorem ok_vs (U : Fun K "_values" "_values" s_vs f fd) (T : Txt K mg) (DX : Mth P w K mg base 1 (CF K) "pixels" ["self"] (spFr K Fr.np)) (DV : Dfn P w K mg base 1 "value_of" ["grays"] spValueOf) :
    FnOk P w K mg base CX0 2 f fd ["frame", "table", "channel"] (spValues K) := by
  refine U.ok sc_vs (fun vs H Q E h => ?_) (fun cdv A outer s H vs Q E hr h => ?_)
  · obtain ⟨F, f, t, ch, S, _, _, _, _, rfl, _⟩ := h
    rfl
  · obtain ⟨F, f, t, ch, S, O, hf, ht, hc, rfl, q⟩ := h
    have hu := hu_of hr
    refine ⟨_, pss_cons (ps_set (i := 3) sc_vs.nd rfl (.inr rfl) (pe_listDown rfl (by rfl) T.list (by rfl) T.reversed (by rfl) T.range (pe_fd T (pv 0))))
      (pss_cons (ps_if (pt_cmpR op_eq (pe_fc T (pv 0)) pe_int (nomark _)) (pss_one (ps_ret
        (pe_lc (own := [("pixel", 4)]) (g := gName 4) (tt := tYes) rfl sc_vs.nd (pi_rngN T.range (pe_mt0 DX T.clF hr (pv 0))) (blkOk_by (N := nVs) (sc := defScope s_vs) (by decide +kernel))
          (fun _ _ _ _ _ => pg_name (i := 4) sc_vs.nd rfl (.inr rfl)) (fun _ _ _ _ _ => pts_nil) (fun _ _ _ _ _ => pe_fn DV hr (pa_cons
            (pe_lc (own := [("plane", 5)]) (g := gName 5) (tt := tYes) rfl sc_vs.nd (pi_lst K (pv 3)) (by show BlkOk nVs (relS _ (defScope s_vs)) _ _; exact blkOk_by (by decide +kernel))
              (fun _ _ _ _ _ => pg_name (i := 5) sc_vs.nd rfl (.inl rfl)) (fun _ _ _ _ _ => pts_nil) (fun _ _ _ _ _ => pe_ix ix_N (pe_dget hu (pv 1) (pe_tup (pa_cons pe_int (pa_cons (pv 5) pa_nil))) (fun _ _ => rfl)) (pv 4) (fun _ _ => rfl))) pa_nil))))) pss_nil)
      (pss_cons (ps_if (pt_cmpR op_eq (pv 2) pe_int (nomark _)) (pss_one (ps_ret
        (pe_lc (own := [("pixel", 4)]) (g := gName 4) (tt := tYes) rfl sc_vs.nd (pi_rngN T.range (pe_mt0 DX T.clF hr (pv 0))) (blkOk_by (N := nVs) (sc := defScope s_vs) (by decide +kernel))
          (fun _ _ _ _ _ => pg_name (i := 4) sc_vs.nd rfl (.inr rfl)) (fun _ _ _ _ _ => pts_nil) (fun _ _ _ _ _ => pe_fn DV hr (pa_cons
            (pe_lc (own := [("plane", 5)]) (g := gName 5) (tt := tYes) rfl sc_vs.nd (pi_lst K (pv 3)) (by show BlkOk nVs (relS _ (defScope s_vs)) _ _; exact blkOk_by (by decide +kernel))
              (fun _ _ _ _ _ => pg_name (i := 5) sc_vs.nd rfl (.inl rfl)) (fun _ _ _ _ _ => pts_nil) (fun _ _ _ _ _ => pe_ix ix_N (pe_dget hu (pv 1) (pe_tup (pa_cons pe_int (pa_cons (pv 5) pa_nil))) (fun _ _ => rfl)) (pv 4) (fun _ _ => rfl))) pa_nil))))) pss_nil)
      (pss_cons (ps_set (i := 6) sc_vs.nd rfl (.inr rfl) (pe_ifExp (pt_cmpR op_eq (pv 2) pe_int (nomark _)) pe_int pe_int))
      (pss_cons (ps_set (i := 7) sc_vs.nd rfl (.inl rfl) (pe_lst pa_nil))
      (pss_cons (ps_for PassesOwn.never rfl (pi_rngN T.range (pe_mt0 DX T.clF hr (pv 0))) (pg_name (i := 4) sc_vs.nd rfl (.inr rfl))
        (pss_one (ps_expr (pe_bm PySem.F.plainAttrs_list PySem.F.slot_list_append PySem.F.type_list_append mt_append (pv 7) (pa_cons (pe_fn DV hr (pa_cons
            (pe_lc (own := [("plane", 5)]) (g := gName 5) (tt := tYes) rfl sc_vs.nd (pi_lst K (pv 3)) (blkOk_by (N := nVs) (sc := defScope s_vs) (by decide +kernel))
              (fun _ _ _ _ _ => pg_name (i := 5) sc_vs.nd rfl (.inl rfl)) (fun _ _ _ _ _ => pts_nil) (fun _ _ _ _ _ => pe_op op_xorB
                (pe_ix ix_N (pe_dget hu (pv 1) (pe_tup (pa_cons pe_int (pa_cons (pv 5) pa_nil))) (fun _ _ => rfl)) (pv 4) (fun _ _ => rfl))
                (pe_ix ix_N (pe_dget hu (pv 1) (pe_tup (pa_cons (pv 6) (pa_cons (pv 5) pa_nil))) (fun _ _ => rfl)) (pv 4) (fun _ _ => rfl)))) pa_nil)) pa_nil)))))
      (pss_one (ps_ret (pv 7)))))))), ?_⟩
    have c3 := O.c3
    have d2 := O.d2
    have n2 := O.np2
    have cc := O.c1
    have hc0 : 0 < F.c := by omega
    refine ⟨_, rfl, f, F, rfl, hf, F.d, rfl, by omega, fun a ha => ?_⟩
    have s1 : Same H (upd H a (.lst (downV F.d))) := Same.new ha
    obtain ⟨dx, hf0⟩ := id hf
    have hf1 := s1 _ _ hf0
    refine ⟨_, rfl, f, F, rfl, hf.same s1, rfl, _, rfl, ?_⟩
    by_cases k1 : F.c = 1
    · rw [decide_eq_true (show nI F.c = V.int 1 by rw [k1]; rfl)]
      refine iteT ?_
      refine ⟨_, rfl, ?_⟩
      refine ⟨f, dx, _, rfl, hf1, (fF_noM F).2.2.2, F, f, O, ⟨dx, hf1⟩, rfl, ?_⟩
      refine ⟨F.np, rfl, by omega, fun D hD => ?_⟩
      refine it_rng (fun i H' => LA (upd H a (.lst (downV F.d))) D H' (intsV ((List.range i).map fun p => valueB F.c F.d (fun a pl => S a pl p) ch))) (LA.new (Same.refl _) hD) (fun px H2 hpx L => ?_) (fun H2 L => q H2 D (s1.trans L.same) L.at_)
      refine ⟨rfl, _, rfl, a, rfl, ⟨_, SqL.of (L.same _ _ upd_same)⟩, fun D2 hD2 => ?_⟩
      refine it_lst (K := K) (a := a) (xs := downV F.d) (fun j H' => LA H2 D2 H' (bitsV (((planes F.d).map (S 0 · px)).take j))) (LA.new (Same.refl _) hD2) (fun j H' L2 => SqL.of (L2.same _ _ (L.same _ _ upd_same))) (fun j x H3 hx L2 => ?_) (fun H3 L2 => ?_)
      · obtain ⟨hj, hpl, rfl⟩ := downV_get hx
        refine ⟨rfl, _, rfl, _, rfl, by show 2 ≤ sizeLine; decide, fun b hb => ?_⟩
        have s4 : Same H3 (upd H3 b (.tup [nI 0, nI (F.d - 1 - j)])) := Same.new hb
        have L4 := L2.grow s4
        obtain ⟨r, g1, g2, g3⟩ := (((ht.same (s1.trans L.same)).same L4.same)).bit (ch := 0) (pl := F.d - 1 - j) (px := px) hc0 (by omega) hpx upd_same
        refine ⟨t, _, rfl, g1, _, rfl, r, _, px, _, rfl, rfl, g2, g3, ?_⟩
        refine ⟨_, L4.at_, small_of (m := 100) ?_, L4.app ?_⟩
        · simp only [List.length_map, List.length_take, planes_len]
          omega
        · have e : (((planes F.d).map (S 0 · px)))[j]? = some (S 0 (F.d - 1 - j) px) := by rw [List.getElem?_map, hpl]; rfl
          rw [← take_snoc e]
          show _ = List.map _ _
          rw [List.map_append]
          rfl
      · have e : (downV F.d).length = ((planes F.d).map (S 0 · px)).length := by rw [List.length_map]; exact downV_len _
        rw [e, List.take_length] at L2
        refine ⟨D2, _, rfl, L2.at_, by simp only [List.length_map, planes_len]; omega, ?_⟩
        have L5 := L.grow L2.same
        refine ⟨_, L5.at_, small_of (m := 256) ?_, L5.app ?_⟩
        · simp only [List.length_map, List.length_range]
          omega
        · have e : valueOf ((planes F.d).map (S 0 · px)) = valueB F.c F.d (fun a pl => S a pl px) ch := by
            unfold valueB
            rw [if_pos k1]
          rw [e]
          exact intsV_snoc [] (fun p => valueB F.c F.d (fun a pl => S a pl p) ch) px
    rw [decide_eq_false (show ¬ nI F.c = V.int 1 by intro e; injection e with e; omega)]
    refine iteF ?_
    refine ⟨_, rfl, rfl, _, rfl, ?_⟩
    by_cases k2 : ch = 1
    · rw [decide_eq_true (show nI ch = V.int 1 by rw [k2]; rfl)]
      refine iteT ?_
      refine ⟨_, rfl, ?_⟩
      refine ⟨f, dx, _, rfl, hf1, (fF_noM F).2.2.2, F, f, O, ⟨dx, hf1⟩, rfl, ?_⟩
      refine ⟨F.np, rfl, by omega, fun D hD => ?_⟩
      refine it_rng (fun i H' => LA (upd H a (.lst (downV F.d))) D H' (intsV ((List.range i).map fun p => valueB F.c F.d (fun a pl => S a pl p) ch))) (LA.new (Same.refl _) hD) (fun px H2 hpx L => ?_) (fun H2 L => q H2 D (s1.trans L.same) L.at_)
      refine ⟨rfl, _, rfl, a, rfl, ⟨_, SqL.of (L.same _ _ upd_same)⟩, fun D2 hD2 => ?_⟩
      refine it_lst (K := K) (a := a) (xs := downV F.d) (fun j H' => LA H2 D2 H' (bitsV (((planes F.d).map (S 0 · px)).take j))) (LA.new (Same.refl _) hD2) (fun j H' L2 => SqL.of (L2.same _ _ (L.same _ _ upd_same))) (fun j x H3 hx L2 => ?_) (fun H3 L2 => ?_)
      · obtain ⟨hj, hpl, rfl⟩ := downV_get hx
        refine ⟨rfl, _, rfl, _, rfl, by show 2 ≤ sizeLine; decide, fun b hb => ?_⟩
        have s4 : Same H3 (upd H3 b (.tup [nI 0, nI (F.d - 1 - j)])) := Same.new hb
        have L4 := L2.grow s4
        obtain ⟨r, g1, g2, g3⟩ := (((ht.same (s1.trans L.same)).same L4.same)).bit (ch := 0) (pl := F.d - 1 - j) (px := px) hc0 (by omega) hpx upd_same
        refine ⟨t, _, rfl, g1, _, rfl, r, _, px, _, rfl, rfl, g2, g3, ?_⟩
        refine ⟨_, L4.at_, small_of (m := 100) ?_, L4.app ?_⟩
        · simp only [List.length_map, List.length_take, planes_len]
          omega
        · have e : (((planes F.d).map (S 0 · px)))[j]? = some (S 0 (F.d - 1 - j) px) := by rw [List.getElem?_map, hpl]; rfl
          rw [← take_snoc e]
          show _ = List.map _ _
          rw [List.map_append]
          rfl
      · have e : (downV F.d).length = ((planes F.d).map (S 0 · px)).length := by rw [List.length_map]; exact downV_len _
        rw [e, List.take_length] at L2
        refine ⟨D2, _, rfl, L2.at_, by simp only [List.length_map, planes_len]; omega, ?_⟩
        have L5 := L.grow L2.same
        refine ⟨_, L5.at_, small_of (m := 256) ?_, L5.app ?_⟩
        · simp only [List.length_map, List.length_range]
          omega
        · have e : valueOf ((planes F.d).map (S 0 · px)) = valueB F.c F.d (fun a pl => S a pl px) ch := by
            unfold valueB
            rw [if_neg k1, if_pos k2]
          rw [e]
          exact intsV_snoc [] (fun p => valueB F.c F.d (fun a pl => S a pl p) ch) px
    rw [decide_eq_false (show ¬ nI ch = V.int 1 by intro e; injection e with e; omega)]
    refine iteF ?_
    have ho : (if decide (nI ch = V.int 0) = true then V.int 1 else V.int 2) = nI (if ch = 0 then 1 else 2) := by
      by_cases z : ch = 0
      · rw [if_pos z, decide_eq_true (show nI ch = V.int 0 by rw [z]; rfl)]
        rfl
      · rw [if_neg z, decide_eq_false (show ¬ nI ch = V.int 0 by intro e; injection e with e; omega)]
        rfl
    refine ⟨_, rfl, rfl, _, rfl, ite_tC ?_⟩
    rw [ho]
    have ho2 : (if ch = 0 then 1 else 2) < F.c := by split <;> omega
    have hval : ∀ px, valueB F.c F.d (fun a pl => S a pl px) ch = valueOf ((planes F.d).map fun pl => S 0 pl px ^^ S (if ch = 0 then 1 else 2) pl px) := fun px => by
      unfold valueB
      rw [if_neg k1, if_neg k2]
    generalize (if ch = 0 then 1 else 2 : Nat) = o at ho2 hval ⊢
    refine ⟨Nat.zero_le _, fun D hD => ?_⟩
    have L0 : LA (upd H a (.lst (downV F.d))) D (upd (upd H a (.lst (downV F.d))) D (.lst [])) [] := LA.new (Same.refl _) hD
    have hf2 := L0.same _ _ hf1
    refine ⟨_, rfl, f, dx, _, rfl, hf2, (fF_noM F).2.2.2, F, f, O, ⟨dx, hf2⟩, rfl, ?_⟩
    refine ⟨F.np, rfl, by omega, ?_⟩
    refine for_rng (fun px σ H2 => ∃ v4, σ = [some (.ref f), some (.ref t), some (nI ch), some (.ref a), v4, none, some (nI o), some (.ref D)] ∧ LA (upd H a (.lst (downV F.d))) D H2 (intsV ((List.range px).map fun p => valueB F.c F.d (fun a pl => S a pl p) ch))) ⟨_, rfl, L0⟩ ?_ ?_
    · rintro px σ H2 hpx ⟨v4, rfl, L⟩
      refine ⟨_, rfl, .inl ⟨rfl, _, SqL.of L.at_⟩, _, rfl, a, rfl, ⟨_, SqL.of (L.same _ _ upd_same)⟩, fun D2 hD2 => ?_⟩
      refine it_lst (K := K) (a := a) (xs := downV F.d) (fun j H' => LA H2 D2 H' (bitsV (((planes F.d).map fun pl => S 0 pl px ^^ S o pl px).take j))) (LA.new (Same.refl _) hD2) (fun j H' L2 => SqL.of (L2.same _ _ (L.same _ _ upd_same))) (fun j x H3 hx L2 => ?_) (fun H3 L2 => ?_)
      · obtain ⟨hj, hpl, rfl⟩ := downV_get hx
        refine ⟨rfl, _, rfl, _, rfl, by show 2 ≤ sizeLine; decide, fun b hb => ?_⟩
        have s4 : Same H3 (upd H3 b (.tup [nI 0, nI (F.d - 1 - j)])) := Same.new hb
        have L4 := L2.grow s4
        have ht4 := (ht.same (s1.trans L.same)).same L4.same
        obtain ⟨r, g1, g2, g3⟩ := ht4.bit (ch := 0) (pl := F.d - 1 - j) (px := px) hc0 (by omega) hpx upd_same
        refine ⟨t, _, rfl, g1, _, rfl, r, _, px, _, rfl, rfl, g2, g3, ?_⟩
        refine ⟨_, rfl, _, rfl, _, rfl, by show 2 ≤ sizeLine; decide, fun b2 hb2 => ?_⟩
        have L6 := L4.grow (Same.new (o := .tup [nI o, nI (F.d - 1 - j)]) hb2)
        obtain ⟨r2, g4, g5, g6⟩ := (ht4.same (Same.new hb2)).bit (ch := o) (pl := F.d - 1 - j) (px := px) ho2 (by omega) hpx upd_same
        refine ⟨t, _, rfl, g4, _, rfl, r2, _, px, _, rfl, rfl, g5, g6, ?_⟩
        refine ⟨_, _, rfl, rfl, ?_⟩
        refine ⟨_, L6.at_, small_of (m := 100) ?_, L6.app ?_⟩
        · simp only [List.length_map, List.length_take, planes_len]
          omega
        · have e : (((planes F.d).map fun pl => S 0 pl px ^^ S o pl px))[j]? = some (S 0 (F.d - 1 - j) px ^^ S o (F.d - 1 - j) px) := by rw [List.getElem?_map, hpl]; rfl
          rw [← take_snoc e]
          show _ = List.map _ _
          rw [List.map_append]
          rfl
      · have e : (downV F.d).length = ((planes F.d).map fun pl => S 0 pl px ^^ S o pl px).length := by rw [List.length_map]; exact downV_len _
        rw [e, List.take_length] at L2
        refine ⟨D2, _, rfl, L2.at_, by simp only [List.length_map, planes_len]; omega, ?_⟩
        have L5 := L.grow L2.same
        refine ⟨_, _, _, rfl, rfl, L5.at_, small_of (m := 256) ?_, _, rfl, L5.app ?_⟩
        · simp only [List.length_map, List.length_range]
          omega
        · rw [← hval px]
          exact intsV_snoc [] (fun p => valueB F.c F.d (fun a pl => S a pl p) ch) px
    · rintro σ H2 ⟨v4, rfl, L⟩
      exact ⟨_, rfl, q H2 D (s1.trans L.same) L.at_⟩
end
end PP
/-! ## 15. grays.py: picture_of -/
namespace PP
open PySem PySem.Spec PyProof.Rows L2
section
variable {P : Program} {w : World} {K : PySem.W.Frag} {mg : Str → Option Value} {base : Heap} {f : Addr} {fd : FuncData}
abbrev nPo : List Str := ["frame", "packets", "table", "values", "channel"]
theorem sc_po : FnScope nPo ["frame", "packets"] (defScope s_po) := ⟨rfl, rfl, rfl, by decide +kernel, rfl, by decide +kernel, by decide +kernel⟩
theorem ok_po (U : Fun K "picture_of" "picture_of" s_po f fd) (T : Txt K mg) (DS : Dfn P w K mg base 5 "_stored" ["frame", "packets"] (spStored K)) (DV : Dfn P w K mg base 2 "_values" ["frame", "table", "channel"] (spValues K))
    (DP : Mkr P w K mg base 2 (CP K) "Picture" ["self", "width", "height", "depth", "channels", "values"] (spPI K)) :
    FnOk P w K mg base CX0 6 f fd ["frame", "packets"] (spPictureOf K) := by
  refine U.ok sc_po (fun vs H Q E h => ?_) (fun cdv A outer s H vs Q E hr h => ?_)
  · obtain ⟨F, f, d, Pk, _, _, _, _, rfl, _⟩ := h
    rfl
  · obtain ⟨F, f, d, Pk, O, hf, hd, hl, rfl, q⟩ := h
    refine ⟨_, pss_cons (ps_set (i := 2) sc_po.nd rfl (.inr rfl) (pe_fn DS hr (pa_cons (pv 0) (pa_cons (pv 1) pa_nil))))
      (pss_cons (ps_setLc (i := 3) (own := [("channel", 4)]) (g := gName 4) (tt := tYes) rfl sc_po.nd rfl rfl (sw_true rfl rfl rfl (by decide +kernel)) (pi_rngN T.range (pe_fc T (pv 0))) (blkOk_by (N := nPo) (sc := defScope s_po) (by decide +kernel))
        (fun _ _ _ _ _ => pg_name (i := 4) sc_po.nd rfl (.inl rfl)) (fun _ _ _ _ _ => pts_nil) (fun _ _ _ _ _ => pe_fn DV hr (pa_cons (pv 0) (pa_cons (pv 2) (pa_cons (pv 4) pa_nil)))))
      (pss_one (ps_ret (pe_mk DP hr (pa_cons (pe_fw T (pv 0)) (pa_cons (pe_fh T (pv 0)) (pa_cons (pe_fd T (pv 0)) (pa_cons (pe_fc T (pv 0)) (pa_cons (pv 3) pa_nil))))))))), ?_⟩
    have c3 := O.c3
    refine ⟨_, rfl, _, rfl, F, f, d, Pk, O, hf, hd, hl, rfl, fun H1 t s1 ht => ?_⟩
    refine ⟨_, rfl, f, F, rfl, hf.same s1, F.c, rfl, by omega, fun D hD => ?_⟩
    refine it_rng (fun ch H' => RL H1 D H' ((rowsOf F (picB F Pk)).take ch)) (RL.new hD) (fun ch H2 hch L => ?_) (fun H2 L => ?_)
    · refine ⟨rfl, _, rfl, _, rfl, _, rfl, F, f, t, ch, _, O, (hf.same s1).same L.same, ht.same L.same, hch, rfl, fun H3 a s3 ha => ?_⟩
      have e := rowsOf_at F (picB F Pk) hch
      obtain ⟨acc, e1, e2, L2⟩ := L.app s3 ha (row_ne O _)
      refine ⟨acc, e1, small_of (m := 100) ?_, ?_⟩
      · rw [e2, List.length_take, rowsOf_len]
        omega
      · rw [← take_snoc e]
        exact L2
    · rw [show F.c = (rowsOf F (picB F Pk)).length from (rowsOf_len _ _).symm, List.take_length] at L
      have hf2 := (hf.same s1).same L.same
      refine ⟨_, rfl, f, F, rfl, hf2, _, rfl, f, F, rfl, hf2, _, rfl, f, F, rfl, hf2, _, rfl, f, F, rfl, hf2, _, rfl, fun x dx hx hdx ne => ?_⟩
      have sd : Same H2 (upd H2 dx (.own x)) := Same.new hdx
      have nx : upd H2 dx (.own x) x = none := by rw [upd_ne ne.symm]; exact hx
      have sx : Same H2 (upd (upd H2 dx (.own x)) x (.ins (CP K) dx [])) := sd.trans (Same.new nx)
      refine ⟨F, x, dx, D, picB F Pk, O, rfl, upd_same, L.rows.same sx, fun ch p _ _ => valueB_lt _ _ _ _, fun H' q' hk hp hr' => ⟨rfl, ?_⟩⟩
      refine q H' x ((s1.trans L.same).trans fun b o e => ?_) ⟨dx, q', hp, hr'⟩
      have nb : b ≠ x := fun z => by rw [z, hx] at e; cases e
      exact hk b o nb (sx _ _ e)
end
end PP
/-! ## 16. the law's helpers: numbers -/
namespace PP
open PySem PySem.Spec PyProof.Rows L2
section
variable {X : Cx}
theorem op_modNN : OpR X (binaryOp .Mod) (fun x y H Q => ∃ n m : Nat, x = nI n ∧ y = nI m ∧ 0 < m ∧ Q (nI (n % m)) H) := by
  intro pins s σ H x y v u Q I rx ry h
  obtain ⟨n, m, rfl, rfl, c, q⟩ := h
  refine op_mod pins s σ H _ _ v u Q I rx ry ⟨_, _, rfl, rfl, Int.natCast_pos.mpr c, ?_⟩
  show Q (V.int ((n : Int) % (m : Int))) H
  rw [← Int.natCast_emod]
  exact q
/-- % m: some number below m -/
theorem op_modA : OpR X (binaryOp .Mod) (fun x y H Q => ∃ (i : Int) (m : Nat), x = .int i ∧ y = nI m ∧ 0 < m ∧ ∀ z : Nat, z < m → Q (nI z) H) := by
  intro pins s σ H x y v u Q I rx ry h
  obtain ⟨n, m, rfl, rfl, c, q⟩ := h
  refine op_mod pins s σ H _ _ v u Q I rx ry ⟨_, _, rfl, rfl, Int.natCast_pos.mpr c, ?_⟩
  have h1 := Int.emod_nonneg n (show (m : Int) ≠ 0 by omega)
  have h2 := Int.emod_lt_of_pos n (show (0 : Int) < m by omega)
  have e : n % (m : Int) = (((n % (m : Int)).toNat : Nat) : Int) := by omega
  show Q (V.int (n % (m : Int))) H
  rw [e]
  exact q _ (by omega)
/-- >= : some answer -/
theorem op_geA : OpR X (compareOp .GtE) (fun x y H Q => ∃ i j : Int, x = .int i ∧ y = .int j ∧ ∀ b, Q (.bl b) H) := by
  intro pins s σ H x y v u Q I rx ry h
  obtain ⟨n, m, rfl, rfl, q⟩ := h
  exact op_ge pins s σ H _ _ v u Q I rx ry ⟨_, _, rfl, rfl, q _⟩
/-- an item of a key, K told -/
theorem ix_tp (K : PySem.W.Frag) (hK : X.K = K := by rfl) : IxR X (rIxT K) := by
  subst hK
  exact ix_tup
end
section
variable {P : Program} {w : World} {K : PySem.W.Frag} {mg : Str → Option Value} {base : Heap} {f : Addr} {fd : FuncData}
theorem ok_lc (U : Fun K "_law_cell" "_law_cell" s_lc f fd) (T : Txt K mg) : FnOk P w K mg base CX0 1 f fd ["_law_script", "_law_k"] (spCell K) := by
  refine U.ok (N := ["_law_script", "_law_k"]) ⟨rfl, rfl, rfl, by decide +kernel, rfl, by decide +kernel, by decide +kernel⟩ (fun vs H Q E h => ?_) (fun cdv A outer s H vs Q E hr h => ?_)
  · obtain ⟨a, ns, k, _, rfl, _⟩ := h
    rfl
  · obtain ⟨a, ns, k, hs, rfl, q⟩ := h
    refine ⟨_, pss_cons (ps_if (pt_cmpR op_lt (pv 1) (pe_callB call_len_seq (by rfl) T.len PySem.boot_len (pa_cons (pv 0) pa_nil)) (nomark _)) (pss_one (ps_ret (pe_ix ix_list (pv 0) (pv 1) (fun _ _ => rfl)))) pss_nil)
      (pss_one (ps_ret pe_int)), ?_⟩
    refine ⟨_, rfl, _, rfl, a, _, rfl, .inl hs, _, _, rfl, rfl, _, rfl, ?_⟩
    rw [List.length_map]
    by_cases h : k < ns.length
    · rw [decide_eq_true (show (k : Int) < ns.length by omega)]
      refine iteT ?_
      refine ⟨_, rfl, _, rfl, a, _, _, .int ns[k], rfl, rfl, hs, atI_nat ?_, q _⟩
      rw [List.getElem?_map, List.getElem?_eq_getElem h]
      rfl
    · rw [decide_eq_false (show ¬ (k : Int) < ns.length by omega)]
      exact iteF (q 0)
abbrev nLm : List Str := ["_law_number", "_law_k", "_law_limit", "_law_one", "_law_two"]
theorem sc_lm : FnScope nLm ["_law_number", "_law_k", "_law_limit"] (defScope s_lm) := ⟨rfl, rfl, rfl, by decide +kernel, rfl, by decide +kernel, by decide +kernel⟩
theorem ok_lm (U : Fun K "_law_mixed" "_law_mixed" s_lm f fd) (T : Txt K mg) : FnOk P w K mg base CX0 1 f fd ["_law_number", "_law_k", "_law_limit"] spMixed := by
  refine U.ok sc_lm (fun vs H Q E h => ?_) (fun cdv A outer s H vs Q E hr h => ?_)
  · obtain ⟨n, k, m, _, rfl, _⟩ := h
    rfl
  · obtain ⟨n, k, m, hm, rfl, q⟩ := h
    refine ⟨_, pss_cons (ps_set (i := 3) sc_lm.nd rfl (.inl rfl) (pe_op op_modA (pe_callTy call_int1 (by rfl) T.int (by decide +kernel) (pa_cons (pe_op op_mul (pe_op op_add (pe_op op_add (pv 0) (pe_op op_mul pe_int (pv 1))) pe_int) pe_int) pa_nil)) pe_int))
      (pss_cons (ps_set (i := 4) sc_lm.nd rfl (.inl rfl) (pe_op op_modA (pe_callTy call_int1 (by rfl) T.int (by decide +kernel) (pa_cons (pe_op op_add (pe_op op_mul (pv 3) (pv 3)) (pe_op op_mul pe_int (pv 1))) pa_nil)) pe_int))
      (pss_one (ps_ret (pe_op op_modA (pe_op op_modA (pe_callTy call_int1 (by rfl) T.int (by decide +kernel) (pa_cons (pe_op op_add (pe_op op_mul (pv 4) pe_int) (pv 3)) pa_nil)) pe_int) (pv 2))))), ?_⟩
    refine ⟨_, rfl, _, rfl, _, _, rfl, rfl, .inl ⟨by decide, by decide⟩, _, _, rfl, rfl, _, _, rfl, rfl, _, _, rfl, rfl, .inr ⟨by decide, by decide⟩, .inl ⟨_, rfl, _, 2147483647, rfl, rfl, by decide, fun one h1 => ?_⟩⟩
    refine ⟨_, rfl, _, rfl, _, _, rfl, rfl, .inl ⟨by omega, by omega⟩, _, rfl, _, _, rfl, rfl, .inl ⟨by decide, by decide⟩, _, _, rfl, rfl, .inl ⟨_, rfl, _, 2147483399, rfl, rfl, by decide, fun two h2 => ?_⟩⟩
    exact ⟨_, rfl, _, _, rfl, rfl, .inr ⟨by decide, by decide⟩, _, rfl, _, _, rfl, rfl, .inl ⟨_, rfl, _, 1000000007, rfl, rfl, by decide, fun z hz => ⟨_, rfl, _, _, rfl, rfl, hm, q⟩⟩⟩
abbrev nLn : List Str := ["_law_cell_here", "_law_count", "_law_limit", "_law_rest", "_law_large", "_law_numbers_here", "_law_k"]
theorem sc_ln : FnScope nLn ["_law_cell_here", "_law_count", "_law_limit"] (defScope s_ln) := ⟨rfl, rfl, rfl, by decide +kernel, rfl, by decide +kernel, by decide +kernel⟩
theorem ok_ln (U : Fun K "_law_numbers" "_law_numbers" s_ln f fd) (T : Txt K mg) (DM : Dfn P w K mg base 1 "_law_mixed" ["_law_number", "_law_k", "_law_limit"] spMixed) : FnOk P w K mg base CX0 2 f fd ["_law_cell_here", "_law_count", "_law_limit"] spNumbers := by
  refine U.ok sc_ln (fun vs H Q E h => ?_) (fun cdv A outer s H vs Q E hr h => ?_)
  · obtain ⟨n, k, m, _, _, _, rfl, _⟩ := h
    rfl
  · obtain ⟨n, k, m, hm, hm2, hk, rfl, q⟩ := h
    refine ⟨_, pss_cons (ps_set (i := 3) sc_ln.nd rfl (.inl rfl) (pe_callB call_abs (by rfl) T.abs (by decide +kernel) (pa_cons (pv 0) pa_nil)))
      (pss_cons (ps_set (i := 4) sc_ln.nd rfl (.inl rfl) (pe_cmpR op_geA (pv 3) (pe_op op_pow pe_int pe_int) (nomark _)))
      (pss_cons (ps_set (i := 5) sc_ln.nd rfl (.inl rfl) (pe_lst pa_nil))
      (pss_cons (ps_for PassesOwn.never rfl (pi_rngN T.range (pv 1)) (pg_name (i := 6) sc_ln.nd rfl (.inl rfl))
        (pss_one (ps_if (PW.pt (pw_and (pt_val (pv 4)) (pw_and1 (pt_cmpR op_gt (pv 3) pe_int (nomark _)))))
          (pss_cons (ps_expr (pe_bm PySem.F.plainAttrs_list PySem.F.slot_list_append PySem.F.type_list_append mt_append (pv 5) (pa_cons (pe_op op_modA (pe_callTy call_int1 (by rfl) T.int (by decide +kernel) (pa_cons (pv 3) pa_nil)) (pv 2)) pa_nil)))
            (pss_one (ps_set (i := 3) sc_ln.nd rfl (.inl rfl) (pe_op op_fdiv (pv 3) (pv 2)))))
          (pss_one (ps_expr (pe_bm PySem.F.plainAttrs_list PySem.F.slot_list_append PySem.F.type_list_append mt_append (pv 5) (pa_cons (pe_fn DM hr (pa_cons (pe_callB call_abs (by rfl) T.abs (by decide +kernel) (pa_cons (pv 0) pa_nil)) (pa_cons (pv 6) (pa_cons (pv 2) pa_nil)))) pa_nil)))))))
      (pss_one (ps_ret (pv 5)))))), ?_⟩
    refine ⟨_, rfl, n, rfl, ?_⟩
    generalize (if n < 0 then -n else n) = rest
    refine ⟨_, rfl, _, _, rfl, rfl, ⟨by decide, by decide, by decide⟩, _, _, rfl, rfl, fun lg => ?_⟩
    refine ⟨Nat.zero_le _, fun D hD => ?_⟩
    refine ⟨_, rfl, k, rfl, by omega, ?_⟩
    refine for_rng (fun i σ H' => ∃ r v6 ns, σ = [some (.int n), some (nI k), some (nI m), some (.int r), some (.bl lg), some (.ref D), v6] ∧ LA H D H' (intsV ns) ∧ ns.length = i ∧ ∀ z ∈ ns, z < m) ⟨_, _, [], rfl, LA.new (Same.refl _) hD, rfl, fun z h => absurd h (List.not_mem_nil)⟩ ?_ ?_
    · rintro i σ H' hi ⟨r, v6, ns, rfl, L, hl, hz⟩
      have add : ∀ (H2 : Hp) (z : Nat), z < m → LA H D H2 (intsV ns) → LA H D (upd H2 D (.lst (intsV ns ++ [nI z]))) (intsV (ns ++ [z])) ∧ (ns ++ [z]).length = i + 1 ∧ ∀ y ∈ ns ++ [z], y < m := fun H2 z hzm L2 => by
        refine ⟨L2.app ?_, by rw [List.length_append, hl]; rfl, fun y hy => ?_⟩
        · show _ = List.map _ _
          rw [List.map_append]
          rfl
        · rcases List.mem_append.mp hy with h | h
          · exact hz y h
          · rw [List.mem_singleton.mp h]
            exact hzm
      have hlen : (intsV ns).length < sizeLine := small_of (m := 2000000) (by rw [List.length_map]; omega)
      refine ⟨_, rfl, lg, rfl, ?_⟩
      cases lg with
      | false =>
        refine iteF (iteF ?_)
        refine ⟨_, rfl, .inl ⟨rfl, _, SqL.of L.at_⟩, _, rfl, n, rfl, _, rfl, _, rfl, _, i, m, hm, rfl, fun z hzm => ?_⟩
        obtain ⟨a1, a2, a3⟩ := add H' z hzm L
        exact ⟨D, _, _, rfl, rfl, L.at_, hlen, _, _, _, rfl, a1, a2, a3⟩
      | true =>
        refine iteT ?_
        refine ⟨_, rfl, _, _, rfl, rfl, _, rfl, ?_⟩
        by_cases h : 0 < r
        · rw [decide_eq_true h]
          refine iteT ?_
          refine ⟨_, rfl, .inl ⟨rfl, _, SqL.of L.at_⟩, _, rfl, .inl ⟨_, rfl, _, rfl, _, _, rfl, rfl, hm, fun z hzm => ?_⟩⟩
          obtain ⟨a1, a2, a3⟩ := add H' z hzm L
          exact ⟨D, _, _, rfl, rfl, L.at_, hlen, _, rfl, _, rfl, _, _, rfl, rfl, ⟨Int.natCast_pos.mpr hm, by omega⟩, _, _, _, rfl, a1, a2, a3⟩
        · rw [decide_eq_false h]
          refine iteF ?_
          refine ⟨_, rfl, .inl ⟨rfl, _, SqL.of L.at_⟩, _, rfl, n, rfl, _, rfl, _, rfl, _, i, m, hm, rfl, fun z hzm => ?_⟩
          obtain ⟨a1, a2, a3⟩ := add H' z hzm L
          exact ⟨D, _, _, rfl, rfl, L.at_, hlen, _, _, _, rfl, a1, a2, a3⟩
    · rintro σ H' ⟨r, v6, ns, rfl, L, hl, hz⟩
      exact ⟨_, rfl, q H' D ns L.same L.at_ hl hz⟩
end
end PP
/-! ## 17. the law's helpers: sizes, values, keys -/
namespace PP
open PySem PySem.Spec PyProof.Rows L2
theorem five {ns : List Nat} (h : ns.length = 5) : ∃ a b c d e, ns = [a, b, c, d, e] := by
  rcases ns with _ | ⟨a, _ | ⟨b, _ | ⟨c, _ | ⟨d, _ | ⟨e, _ | ⟨f, r⟩⟩⟩⟩⟩⟩
  all_goals first | exact ⟨_, _, _, _, _, rfl⟩ | (simp at h)
theorem law_frame {m x0 x1 x2 x3 x4 : Nat} (h1 : 1 ≤ m) (h2 : m ≤ 16) : Fr.Ok ⟨1 + x0 % m, min (1 + x1 % m) (3072 / ((1 + x0 % m) * (1 + 2 * (x3 % 2)))), 1 + x2 % 8, 1 + 2 * (x3 % 2), 1 + x4 % 16⟩ := by
  have a0 : x0 % m < m := Nat.mod_lt _ (by omega)
  have a1 : x1 % m < m := Nat.mod_lt _ (by omega)
  have a2 : x2 % 8 < 8 := Nat.mod_lt _ (by decide)
  have a3 : x3 % 2 < 2 := Nat.mod_lt _ (by decide)
  have a4 : x4 % 16 < 16 := Nat.mod_lt _ (by decide)
  generalize x0 % m = y0 at *
  generalize x1 % m = y1 at *
  generalize x2 % 8 = y2 at *
  generalize x3 % 2 = y3 at *
  generalize x4 % 16 = y4 at *
  have m1 : (1 + y0) * (1 + 2 * y3) ≤ 16 * 3 := Nat.mul_le_mul (by omega) (by omega)
  have m2 : 1 * 1 ≤ (1 + y0) * (1 + 2 * y3) := Nat.mul_le_mul (by omega) (by omega)
  have hd : 64 ≤ 3072 / ((1 + y0) * (1 + 2 * y3)) := by
    rw [Nat.le_div_iff_mul_le (by omega)]
    omega
  have hm : min (1 + y1) (3072 / ((1 + y0) * (1 + 2 * y3))) = 1 + y1 := Nat.min_eq_left (by omega)
  rw [hm]
  constructor <;> (try show _ ≤ _) <;> (try simp only []) <;> omega
section
variable {P : Program} {w : World} {K : PySem.W.Frag} {mg : Str → Option Value} {base : Heap} {f : Addr} {fd : FuncData}
abbrev nLz : List Str := ["_law_cell_here", "_law_most", "_law_row", "_law_channels", "_law_width", "_law_height"]
theorem sc_lz : FnScope nLz ["_law_cell_here", "_law_most"] (defScope s_lz) := ⟨rfl, rfl, rfl, by decide +kernel, rfl, by decide +kernel, by decide +kernel⟩
theorem ok_lz (U : Fun K "_law_sizes" "_law_sizes" s_lz f fd) (T : Txt K mg) (DN : Dfn P w K mg base 2 "_law_numbers" ["_law_cell_here", "_law_count", "_law_limit"] spNumbers) : FnOk P w K mg base CX0 3 f fd ["_law_cell_here", "_law_most"] spSizes := by
  refine U.ok sc_lz (fun vs H Q E h => ?_) (fun cdv A outer s H vs Q E hr h => ?_)
  · obtain ⟨n, m, _, _, rfl, _⟩ := h
    rfl
  · obtain ⟨n, m, m1, m2, rfl, q⟩ := h
    refine ⟨_, pss_cons (ps_set (i := 2) sc_lz.nd rfl (.inl rfl) (pe_fn DN hr (pa_cons (pv 0) (pa_cons pe_int (pa_cons pe_int pa_nil)))))
      (pss_cons (ps_set (i := 3) sc_lz.nd rfl (.inl rfl) (pe_op op_addN pe_int (pe_op op_mulN pe_int (pe_op op_modNN (pe_ix ix_N (pv 2) pe_int (fun _ _ => rfl)) pe_int))))
      (pss_cons (ps_set (i := 4) sc_lz.nd rfl (.inl rfl) (pe_op op_addN pe_int (pe_op op_modNN (pe_ix ix_N (pv 2) pe_int (fun _ _ => rfl)) (pv 1))))
      (pss_cons (ps_set (i := 5) sc_lz.nd rfl (.inl rfl) (pe_callB (call_minN rfl) (by rfl) T.min (by decide +kernel) (pa_cons (pe_op op_addN pe_int (pe_op op_modNN (pe_ix ix_N (pv 2) pe_int (fun _ _ => rfl)) (pv 1))) (pa_cons (pe_op op_fdivNN pe_int (pe_op op_mulN (pv 4) (pv 3))) pa_nil))))
      (pss_one (ps_ret (pe_lst (pa_cons (pv 4) (pa_cons (pv 5) (pa_cons (pe_op op_addN pe_int (pe_op op_modNN (pe_ix ix_N (pv 2) pe_int (fun _ _ => rfl)) pe_int)) (pa_cons (pv 3) (pa_cons (pe_op op_addN pe_int (pe_op op_modNN (pe_ix ix_N (pv 2) pe_int (fun _ _ => rfl)) pe_int)) pa_nil))))))))))), ?_⟩
    refine ⟨_, rfl, n, 5, 960, by decide, by decide, by decide, rfl, fun H1 b ns s1 hb hlen hz => ?_⟩
    obtain ⟨x0, x1, x2, x3, x4, rfl⟩ := five hlen
    have O := law_frame (x0 := x0) (x1 := x1) (x2 := x2) (x3 := x3) (x4 := x4) m1 m2
    have a0 : x0 % m < m := Nat.mod_lt _ (by omega)
    have a3 : x3 % 2 < 2 := Nat.mod_lt _ (by decide)
    refine ⟨_, rfl, b, _, 3, _, rfl, rfl, hb, rfl, x3, 2, rfl, rfl, by decide, 2, _, rfl, rfl, by decide, 1, _, rfl, rfl, ?_⟩
    refine ⟨_, rfl, b, _, 0, _, rfl, rfl, hb, rfl, _, rfl, x0, m, rfl, rfl, by omega, 1, _, rfl, rfl, ?_⟩
    have mm : 1 * 1 ≤ (1 + x0 % m) * (1 + 2 * (x3 % 2)) := Nat.mul_le_mul (by omega) (by omega)
    have mx : (1 + x0 % m) * (1 + 2 * (x3 % 2)) ≤ 16 * 3 := Nat.mul_le_mul (by omega) (by omega)
    refine ⟨_, rfl, b, _, 1, _, rfl, rfl, hb, rfl, _, rfl, x1, m, rfl, rfl, by omega, 1, _, rfl, rfl, _, rfl, _, rfl, _, _, rfl, rfl, by omega, 3072, _, rfl, rfl, ⟨by omega, by omega⟩, _, _, rfl, ?_⟩
    refine ⟨_, rfl, _, rfl, _, rfl, b, _, 2, _, rfl, rfl, hb, rfl, x2, 8, rfl, rfl, by decide, 1, _, rfl, rfl, _, rfl, _, rfl, b, _, 4, _, rfl, rfl, hb, rfl, x4, 16, rfl, rfl, by decide, 1, _, rfl, rfl, by show 5 ≤ sizeLine; decide, fun a ha => ?_⟩
    exact q _ a _ O (s1.trans (Same.new ha)) upd_same
end
end PP
/-! ## 18. the law's helpers: values, keys, stored bits -/
namespace PP
open PySem PySem.Spec PyProof.Rows L2
section
variable {X : Cx}
theorem op_oneShlN : OpR X (binaryOp .LShift) (fun x y H Q => ∃ k : Nat, x = nI 1 ∧ y = nI k ∧ k ≤ 1000 ∧ Q (nI (2 ^ k)) H) := by
  intro pins s σ H x y v u Q I rx ry h
  obtain ⟨k, rfl, rfl, c, q⟩ := h
  refine op_oneShl pins s σ H _ _ v u Q I rx ry ⟨k, rfl, rfl, by omega, ?_⟩
  rw [← PySem.W.kbt_cast]
  exact q
theorem op_neNN : OpR X (compareOp .NotEq) (fun x y H Q => ∃ n m : Nat, x = nI n ∧ y = nI m ∧ Q (.bl (n != m)) H) := by
  intro pins s σ H x y v u Q I rx ry h
  obtain ⟨n, m, rfl, rfl, q⟩ := h
  refine op_ne pins s σ H _ _ v u Q I rx ry ⟨rfl, ?_⟩
  have e : (!decide (nI n = nI m)) = (n != m) := by
    by_cases z : n = m
    · subst z
      simp
    · have h : ¬ nI n = nI m := fun e => z (by injection e with e; omega)
      rw [decide_eq_false h]
      symm
      simpa using z
  rw [e]
  exact q
theorem op_neB : OpR X (compareOp .NotEq) (fun x y H Q => ∃ a b : Bool, x = bV a ∧ y = bV b ∧ Q (.bl (a ^^ b)) H) := by
  intro pins s σ H x y v u Q I rx ry h
  obtain ⟨a, b, rfl, rfl, q⟩ := h
  refine op_neNN pins s σ H _ _ v u Q I rx ry ⟨_, _, rfl, rfl, ?_⟩
  cases a <;> cases b <;> exact q
/-- int(a bool) -/
theorem call_intB : CallR X (.type "int") (fun xs H Q => ∃ k : Bool, xs = [.bl k] ∧ Q (bV k) H) := by
  intro pins s σ H xs us Q I r h
  obtain ⟨k, e, q⟩ := h
  refine call_int1 pins s σ H xs us Q I r (.inr ⟨k, e, ?_⟩)
  cases k <;> exact q
theorem sl_lst (K : PySem.W.Frag) (hK : X.K = K := by rfl) : SlR X (rSlL K) := by
  subst hK
  exact sl_list
end
theorem cut_row {ns : List Nat} {a n : Nat} (h : a + n ≤ ns.length) : cutV (intsV ns) (some ((a : Nat) : Int)) (some (((a + n : Nat) : Int))) = intsV ((List.range n).map fun p => ns.getD (a + p) 0) := by
  unfold cutV
  rw [HT.sIx_nat, HT.sIx_nat, List.length_map, Nat.min_eq_left (show a ≤ ns.length by omega), Nat.min_eq_left h, Nat.add_sub_cancel_left]
  refine List.ext_getElem (by simp; omega) fun i h1 h2 => ?_
  have hi : i < n := by simpa using h2
  simp only [List.getElem_take, List.getElem_drop, List.getElem_map, List.getElem_range]
  rw [List.getD_eq_getElem?_getD, List.getElem?_eq_getElem (by omega)]
  rfl
section
variable {P : Program} {w : World} {K : PySem.W.Frag} {mg : Str → Option Value} {base : Heap} {f : Addr} {fd : FuncData}
abbrev nLv : List Str := ["_law_cell_here", "_law_sizes_here", "_law_pixels_here", "_law_row", "_law_k"]
theorem sc_lv : FnScope nLv ["_law_cell_here", "_law_sizes_here"] (defScope s_lv) := ⟨rfl, rfl, rfl, by decide +kernel, rfl, by decide +kernel, by decide +kernel⟩
theorem ok_lv (U : Fun K "_law_values" "_law_values" s_lv f fd) (T : Txt K mg) (DN : Dfn P w K mg base 2 "_law_numbers" ["_law_cell_here", "_law_count", "_law_limit"] spNumbers) : FnOk P w K mg base CX0 3 f fd ["_law_cell_here", "_law_sizes_here"] spLValues := by
  refine U.ok sc_lv (fun vs H Q E h => ?_) (fun cdv A outer s H vs Q E hr h => ?_)
  · obtain ⟨n, a, F, _, _, rfl, _⟩ := h
    rfl
  · obtain ⟨n, a, F, O, ha, rfl, q⟩ := h
    refine ⟨_, pss_cons (ps_set (i := 2) sc_lv.nd rfl (.inr rfl) (pe_op op_mulN (pe_ix ix_N (pv 1) pe_int (fun _ _ => rfl)) (pe_ix ix_N (pv 1) pe_int (fun _ _ => rfl))))
      (pss_cons (ps_set (i := 3) sc_lv.nd rfl (.inr rfl) (pe_fn DN hr (pa_cons (pv 0) (pa_cons (pe_op op_mulN (pv 2) (pe_ix ix_N (pv 1) pe_int (fun _ _ => rfl))) (pa_cons (pe_op op_oneShlN pe_int (pe_ix ix_N (pv 1) pe_int (fun _ _ => rfl))) pa_nil)))))
      (pss_one (ps_ret (pe_lc (own := [("_law_k", 4)]) (g := gName 4) (tt := tYes) rfl sc_lv.nd (pi_rngN T.range (pe_ix ix_N (pv 1) pe_int (fun _ _ => rfl))) (blkOk_by (N := nLv) (sc := defScope s_lv) (by decide +kernel))
        (fun _ _ _ _ _ => pg_name (i := 4) sc_lv.nd rfl (.inl rfl)) (fun _ _ _ _ _ => pts_nil) (fun _ _ _ _ _ => pe_slice (sl_lst K) (pv 3) (po_some (pe_op op_mulN (pv 2) (pv 4))) (po_some (pe_op op_addN (pe_op op_mulN (pv 2) (pv 4)) (pv 2)))))))), ?_⟩
    have w2 := O.w2
    have d2 := O.d2
    have c3 := O.c3
    have n2 := O.np2
    have m1 : F.np * F.c ≤ 256 * 3 := Nat.mul_le_mul n2 c3
    have m2 : 2 ^ F.d ≤ 2 ^ 8 := Nat.pow_le_pow_right (by decide) d2
    refine ⟨_, rfl, a, _, 0, _, rfl, rfl, ha, rfl, _, rfl, a, _, 1, _, rfl, rfl, ha, rfl, F.w, F.h, rfl, rfl, by omega, ?_⟩
    refine ⟨_, rfl, _, rfl, _, rfl, a, _, 3, _, rfl, rfl, ha, rfl, F.np, F.c, rfl, rfl, by omega, _, rfl, a, _, 2, _, rfl, rfl, ha, rfl, F.d, rfl, rfl, by omega, ?_⟩
    refine ⟨n, F.np * F.c, 2 ^ F.d, Nat.two_pow_pos _, by omega, by omega, rfl, fun H1 b ns s1 hb hlen hz => ?_⟩
    refine ⟨_, rfl, a, _, 3, _, rfl, rfl, s1 _ _ ha, rfl, F.c, rfl, by omega, fun D hD => ?_⟩
    refine it_rng (fun ch H' => RL H1 D H' ((rowsOf F fun ch p => ns.getD (F.np * ch + p) 0).take ch)) (RL.new hD) (fun ch H2 hch L => ?_) (fun H2 L => ?_)
    · have hle : F.np * ch + F.np ≤ ns.length := by
        rw [hlen]
        have := Nat.mul_le_mul_left F.np (show ch + 1 ≤ F.c from hch)
        rwa [Nat.mul_add, Nat.mul_one] at this
      have hb2 := L.same _ _ hb
      refine ⟨rfl, _, rfl, _, rfl, _, rfl, F.np, ch, rfl, rfl, by omega, _, rfl, _, rfl, _, rfl, F.np, ch, rfl, rfl, by omega, _, rfl, _, _, rfl, rfl, _, rfl, b, _, rfl, SqL.of hb2, fun r hr' => ?_⟩
      rw [show F.w * F.h = F.np from rfl, cut_row hle]
      have e := rowsOf_at F (fun ch p => ns.getD (F.np * ch + p) 0) hch
      obtain ⟨acc, e1, e2, L2⟩ := L.app (Same.new (o := .lst (intsV ((List.range F.np).map fun p => ns.getD (F.np * ch + p) 0))) hr') upd_same (row_ne O _)
      refine ⟨acc, e1, small_of (m := 100) ?_, ?_⟩
      · rw [e2, List.length_take, rowsOf_len]
        omega
      · rw [← take_snoc e]
        exact L2
    · rw [show F.c = (rowsOf F fun ch p => ns.getD (F.np * ch + p) 0).length from (rowsOf_len _ _).symm, List.take_length] at L
      refine q H2 D _ (s1.trans L.same) L.rows fun ch p hc hp => ?_
      have hle : F.np * ch + p < ns.length := by
        rw [hlen]
        have := Nat.mul_le_mul_left F.np (show ch + 1 ≤ F.c from hc)
        rw [Nat.mul_add, Nat.mul_one] at this
        omega
      rw [List.getD_eq_getElem?_getD, List.getElem?_eq_getElem hle]
      exact hz _ (List.getElem_mem hle)
theorem ok_lt (U : Fun K "_law_tiles" "_law_tiles" s_lt f fd) : FnOk P w K mg base CX0 1 f fd ["_law_sizes_here"] spLTiles := by
  refine U.ok (N := ["_law_sizes_here"]) ⟨rfl, rfl, rfl, by decide +kernel, rfl, by decide +kernel, by decide +kernel⟩ (fun vs H Q E h => ?_) (fun cdv A outer s H vs Q E hr h => ?_)
  · obtain ⟨a, F, _, _, rfl, _⟩ := h
    rfl
  · obtain ⟨a, F, O, ha, rfl, q⟩ := h
    refine ⟨_, pss_one (ps_ret (pe_op op_mulN (pe_op op_fdivNN (pe_op op_subN (pe_op op_addN (pe_ix ix_N (pv 0) pe_int (fun _ _ => rfl)) (pe_ix ix_N (pv 0) pe_int (fun _ _ => rfl))) pe_int) (pe_ix ix_N (pv 0) pe_int (fun _ _ => rfl)))
      (pe_op op_fdivNN (pe_op op_subN (pe_op op_addN (pe_ix ix_N (pv 0) pe_int (fun _ _ => rfl)) (pe_ix ix_N (pv 0) pe_int (fun _ _ => rfl))) pe_int) (pe_ix ix_N (pv 0) pe_int (fun _ _ => rfl))))), ?_⟩
    have t1 := O.t1
    have t2 := O.t2
    have w1 := O.w1
    have h1 := O.h1
    have a2 := O.ac2
    refine ⟨_, rfl, a, _, 0, _, rfl, rfl, ha, rfl, _, rfl, a, _, 4, _, rfl, rfl, ha, rfl, F.w, F.t, rfl, rfl, _, 1, rfl, rfl, by omega, _, rfl, a, _, 4, _, rfl, rfl, ha, rfl, _, F.t, rfl, rfl, ⟨t1, by omega⟩, ?_⟩
    exact ⟨_, rfl, a, _, 1, _, rfl, rfl, ha, rfl, _, rfl, a, _, 4, _, rfl, rfl, ha, rfl, F.h, F.t, rfl, rfl, _, 1, rfl, rfl, by omega, _, rfl, a, _, 4, _, rfl, rfl, ha, rfl, _, F.t, rfl, rfl, ⟨t1, by omega⟩, F.ac, F.dn, rfl, rfl, by omega, q⟩
theorem ok_lg (U : Fun K "_law_gray" "_law_gray" s_lg f fd) (T : Txt K mg) : FnOk P w K mg base CX0 1 f fd ["_law_value", "_law_plane"] spGray := by
  refine U.ok (N := ["_law_value", "_law_plane"]) ⟨rfl, rfl, rfl, by decide +kernel, rfl, by decide +kernel, by decide +kernel⟩ (fun vs H Q E h => ?_) (fun cdv A outer s H vs Q E hr h => ?_)
  · obtain ⟨v, pl, rfl, _⟩ := h
    rfl
  · obtain ⟨v, pl, rfl, hp, q⟩ := h
    refine ⟨_, pss_one (ps_ret (pe_callTy call_intB (by rfl) T.int (by decide +kernel) (pa_cons (pe_cmpR op_neNN (pe_op op_modNN (pe_op op_fdivNN (pv 0) (pe_op op_oneShlN pe_int (pv 1))) pe_int) (pe_op op_modNN (pe_op op_fdivNN (pv 0) (pe_op op_oneShlN pe_int (pe_op op_addN (pv 1) pe_int))) pe_int) (nomark _)) pa_nil))), ?_⟩
    have m1 : 2 ^ pl ≤ 2 ^ 8 := Nat.pow_le_pow_right (by decide) hp
    have m2 : 2 ^ (pl + 1) ≤ 2 ^ 9 := Nat.pow_le_pow_right (by decide) (by omega)
    have p1 := Nat.two_pow_pos pl
    have p2 := Nat.two_pow_pos (pl + 1)
    exact ⟨_, rfl, _, rfl, pl, rfl, rfl, by omega, v, _, rfl, rfl, ⟨p1, by omega⟩, _, 2, rfl, rfl, by decide, _, rfl, _, rfl, pl, 1, rfl, rfl, pl + 1, rfl, rfl, by omega, v, _, rfl, rfl, ⟨p2, by omega⟩, _, 2, rfl, rfl, by decide, _, _, rfl, rfl, _, rfl, q⟩
end
end PP
/-! ## 19. the law's helpers: keys, stored bits, pixels -/
namespace PP
open PySem PySem.Spec PyProof.Rows L2
/-- range(a, b) of naturals -/
def iRngL (ta : TA) : TI := fun σ H R => ta σ H fun vs H1 => ∃ lo hi : Nat, vs = [nI lo, nI hi] ∧ hi ≤ 16777216 ∧ lo ≤ 16777216 ∧ R (Itr lo (hi - lo)) H1
theorem pi_rngL {X : Cx} {tg a b : Expr} {ta : TA} {p pos : Pos} (hm : X.mg "range" = none) (ha : PA X [a, b] ta) (hg : Gl X "range" := by rfl) (hs : starEach [a, b] X.env = [(false, eval a X.env), (false, eval b X.env)] := by rfl) (hs2 : starEach [b] X.env = [(false, eval b X.env)] := by rfl) :
    PI X tg (.Call (.Name "range" p) [a, b] [] pos) (iRngL ta) := by
  have pa : PA X [a, b] (fun σ H Q => ∃ R : List V → Hp → Prop, ta σ H R ∧ ∀ x H1, R x H1 → Q x H1) :=
    ⟨fun pos pins s σ H Q I ⟨R, h1, h2⟩ => thn (ha.run pos pins s σ H R I h1) fun us s1 ⟨vs, H1, I1, r1, q1⟩ => ⟨vs, H1, I1, r1, h2 vs H1 q1⟩⟩
  refine PI.imp (pi_range2 hg hm pa hs hs2) fun σ H R h => ⟨_, h, fun x H1 ⟨lo, hi, e, h1, h2, q⟩ => ⟨(lo : Int), (hi : Int), e, by omega, ?_⟩⟩
  rw [show ((hi : Int) - (lo : Int)).toNat = hi - lo by omega]
  exact q
theorem it_rngL {lo n : Nat} {B : V → Hp → (Hp → Prop) → Prop} {H0 : Hp} {Qd : Hp → Prop} (Pv : Nat → Hp → Prop) (h0 : Pv 0 H0) (hs : ∀ i H, i < n → Pv i H → B (nI (lo + i)) H (Pv (i + 1))) (hd : ∀ H, Pv n H → Qd H) :
    ∃ W : Nat → Nat → Hp → Prop, (∃ m, W 0 m H0) ∧ ∀ i m H, W i m H → ((Itr lo n).stop i H ∧ Qd H) ∨ ((Itr lo n).go i H ∧ ∃ Nx : Hp → Prop, (∀ H', Nx H' → ∃ m', m' < m ∧ W (i + 1) m' H') ∧ ∀ x H', (Itr lo n).yld i H x H' → B x H' Nx) := by
  refine ⟨fun i m H => m = n - i ∧ i ≤ n ∧ Pv i H, ⟨n, by simp, Nat.zero_le _, h0⟩, ?_⟩
  rintro i m H ⟨rfl, hi, p⟩
  by_cases hlt : i < n
  · refine .inr ⟨hlt, Pv (i + 1), fun H' p' => ⟨n - (i + 1), by omega, rfl, hlt, p'⟩, fun x H' y => ?_⟩
    obtain ⟨e, y⟩ := y
    subst e y
    rw [← Int.natCast_add]
    exact hs i _ hlt p
  · have e : i = n := by omega
    subst e
    exact .inl ⟨Nat.le_refl _, hd H p⟩
theorem for_rngL {lo n : Nat} {g : TG} {tb : TS} {D : Ends} {σ : L2.St} {H : Hp} (Pv : Nat → L2.St → Hp → Prop) (h0 : Pv 0 σ H)
    (hs : ∀ i σ H, i < n → Pv i σ H → g (nI (lo + i)) σ H fun σ2 H2 => tb { D with nx := Pv (i + 1), ct := Pv (i + 1), bk := D.nx } σ2 H2) (hd : ∀ σ H, Pv n σ H → D.nx σ H) :
    ∃ W : Nat → Nat → L2.St → Hp → Prop, (∃ m, W 0 m σ H) ∧ ∀ i m σ H, W i m σ H →
      ((Itr lo n).stop i H ∧ D.nx σ H) ∨ ((Itr lo n).go i H ∧ ∃ N : L2.St → Hp → Prop, (∀ σ' H', N σ' H' → ∃ m', m' < m ∧ W (i + 1) m' σ' H') ∧ ∀ x H', (Itr lo n).yld i H x H' → g x σ H' fun σ2 H2 => tb { D with nx := N, ct := N, bk := D.nx } σ2 H2) :=
  for_range (lo := lo) Pv h0 (fun i σ H hi p => by rw [← Int.natCast_add]; exact hs i σ H hi p) hd
section
variable {P : Program} {w : World} {K : PySem.W.Frag} {mg : Str → Option Value} {base : Heap} {f : Addr} {fd : FuncData}
abbrev nLo : List Str := ["_law_sizes_here", "_law_tiles_here", "_law_keys", "_law_down", "_law_channel", "_law_tile"]
theorem sc_lo : FnScope nLo ["_law_sizes_here", "_law_tiles_here"] (defScope s_lo) := ⟨rfl, rfl, rfl, by decide +kernel, rfl, by decide +kernel, by decide +kernel⟩
theorem KL.lst {H1 H : Hp} {D : Addr} {ks : List Ky} (h : KL H1 D H ks) : ∃ xs, H D = some (.lst xs) := let ⟨_, L, _⟩ := h; ⟨_, L.at_⟩
theorem ok_lo (U : Fun K "_law_order" "_law_order" s_lo f fd) (T : Txt K mg) : FnOk P w K mg base CX0 1 f fd ["_law_sizes_here", "_law_tiles_here"] spLOrder := by
  refine U.ok sc_lo (fun vs H Q E h => ?_) (fun cdv A outer s H vs Q E hr h => ?_)
  · obtain ⟨a, F, _, _, rfl, _⟩ := h
    rfl
  · obtain ⟨a, F, O, ha, rfl, q⟩ := h
    refine ⟨_, pss_cons (ps_set (i := 2) sc_lo.nd rfl (.inl rfl) (pe_lst pa_nil))
      (pss_cons (ps_for PassesOwn.never rfl (pi_rngN T.range (pe_ix ix_N (pv 0) pe_int (fun _ _ => rfl))) (pg_name (i := 3) sc_lo.nd rfl (.inl rfl))
        (pss_one (ps_for PassesOwn.never rfl (pi_rngN T.range (pe_ix ix_N (pv 0) pe_int (fun _ _ => rfl))) (pg_name (i := 4) sc_lo.nd rfl (.inl rfl))
          (pss_one (ps_for PassesOwn.never rfl (pi_rngN T.range (pv 1)) (pg_name (i := 5) sc_lo.nd rfl (.inl rfl))
            (pss_one (ps_expr (pe_bm PySem.F.plainAttrs_list PySem.F.slot_list_append PySem.F.type_list_append mt_append (pv 2) (pa_cons (pe_tup (pa_cons (pv 4) (pa_cons (pv 5) (pa_cons (pe_op op_subN (pe_op op_subN (pe_ix ix_N (pv 0) pe_int (fun _ _ => rfl)) pe_int) (pv 3)) pa_nil)))) pa_nil)))))))))
      (pss_one (ps_ret (pv 2)))), ?_⟩
    have c3 := O.c3
    have d2 := O.d2
    have n2 := O.nt2
    have lc : ∀ p ch, (F.keysCh p ch).length = F.nt := fun p ch => by simp [Fr.keysCh]
    have lp : ∀ p, (F.keysPl p).length = F.c * F.nt := fun p => flatN (lc p) F.c
    refine ⟨Nat.zero_le _, fun D hD => ?_⟩
    have L0 : KL H D (upd H D (.lst [])) [] := KL.new hD
    refine ⟨_, rfl, a, _, 2, _, rfl, rfl, L0.same _ _ ha, rfl, F.d, rfl, by omega, ?_⟩
    refine for_rng (fun i σ H' => ∃ v3 v4 v5, σ = [some (.ref a), some (nI F.nt), some (.ref D), v3, v4, v5] ∧ KL H D H' ((List.range i).flatMap fun j => F.keysPl (F.d - 1 - j))) ⟨_, _, _, rfl, L0⟩ ?_ ?_
    · rintro i σ H' hi ⟨v3, v4, v5, rfl, L⟩
      refine ⟨_, rfl, a, _, 3, _, rfl, rfl, L.same _ _ ha, rfl, F.c, rfl, by omega, ?_⟩
      refine for_rng (fun ch σ H' => ∃ v4 v5, σ = [some (.ref a), some (nI F.nt), some (.ref D), some (nI i), v4, v5] ∧ KL H D H' (((List.range i).flatMap fun j => F.keysPl (F.d - 1 - j)) ++ (List.range ch).flatMap (F.keysCh (F.d - 1 - i)))) ⟨_, _, rfl, by simpa using L⟩ ?_ ?_
      · rintro ch σ H2 hch ⟨v4, v5, rfl, L2⟩
        refine ⟨_, rfl, F.nt, rfl, by omega, ?_⟩
        refine for_rng (fun t σ H' => ∃ v5, σ = [some (.ref a), some (nI F.nt), some (.ref D), some (nI i), some (nI ch), v5] ∧ KL H D H' ((((List.range i).flatMap fun j => F.keysPl (F.d - 1 - j)) ++ (List.range ch).flatMap (F.keysCh (F.d - 1 - i))) ++ (List.range t).map fun t => (⟨ch, t, F.d - 1 - i⟩ : Ky))) ⟨_, rfl, by simpa using L2⟩ ?_ ?_
        · rintro t σ H3 ht ⟨v5, rfl, L3⟩
          obtain ⟨xs, hxs⟩ := L3.lst
          refine ⟨_, rfl, .inl ⟨rfl, _, SqL.of hxs⟩, _, rfl, _, rfl, _, rfl, a, _, 2, _, rfl, rfl, L3.same _ _ ha, rfl, F.d, 1, rfl, rfl, by omega, _, rfl, F.d - 1, i, rfl, rfl, by omega, by show 3 ≤ sizeLine; decide, fun b hb => ?_⟩
          obtain ⟨acc, e1, e2, L4⟩ := L3.app hb ⟨ch, t, F.d - 1 - i⟩
          refine ⟨D, acc, _, rfl, rfl, e1, ?_, _, rfl, ?_⟩
          · refine small_of (m := 100000) ?_
            rw [e2, List.length_append, List.length_append, flatN (fun j => lp _), flatN (lc _), List.length_map, List.length_range]
            have m1 : F.c * F.nt ≤ 3 * 256 := Nat.mul_le_mul c3 n2
            have m2 : i * (F.c * F.nt) ≤ 8 * (3 * 256) := Nat.mul_le_mul (by omega) m1
            have m3 : ch * F.nt ≤ 3 * 256 := Nat.mul_le_mul (by omega) n2
            omega
          · rw [← map_snoc, ← List.append_assoc]
            exact L4
        · rintro σ H3 ⟨v5, rfl, L3⟩
          refine ⟨_, _, rfl, ?_⟩
          rw [← flat_snoc, ← List.append_assoc]
          exact L3
      · rintro σ H2 ⟨v4, v5, rfl, L2⟩
        refine ⟨_, _, _, rfl, ?_⟩
        rw [← flat_snoc]
        exact L2
    · rintro σ H' ⟨v3, v4, v5, rfl, L⟩
      exact ⟨_, rfl, q H' D L.same L.keys⟩
abbrev nLs : List Str := ["_law_values_here", "_law_channel", "_law_pixel", "_law_plane", "_law_middle", "_law_side"]
theorem sc_ls : FnScope nLs ["_law_values_here", "_law_channel", "_law_pixel", "_law_plane"] (defScope s_ls) := ⟨rfl, rfl, rfl, by decide +kernel, rfl, by decide +kernel, by decide +kernel⟩
theorem RowsA.len {H : Hp} {q : Addr} {F : Fr} {R : Nat → Nat → Nat} (h : RowsA H q (rowsOf F R)) : ∃ zs : List V, H q = some (.lst zs) ∧ zs.length = F.c := by
  obtain ⟨ps, e, r⟩ := h
  exact ⟨_, e, by rw [List.length_map, Paired.length r, rowsOf_len]⟩
theorem ok_ls (U : Fun K "_law_stored" "_law_stored" s_ls f fd) (T : Txt K mg) (DG : Dfn P w K mg base 1 "_law_gray" ["_law_value", "_law_plane"] spGray) :
    FnOk P w K mg base CX0 2 f fd ["_law_values_here", "_law_channel", "_law_pixel", "_law_plane"] spLStored := by
  refine U.ok sc_ls (fun vs H Q E h => ?_) (fun cdv A outer s H vs Q E hr h => ?_)
  · obtain ⟨F, q, R, ch, px, pl, _, _, _, _, _, rfl, _⟩ := h
    rfl
  · obtain ⟨F, q, R, ch, px, pl, O, hq, hc, hx, hl, rfl, k⟩ := h
    refine ⟨_, pss_cons (ps_if (pt_cmpR op_eq (pe_callB cr_len1 (by rfl) T.len PySem.boot_len (pa_cons (pv 0) pa_nil)) pe_int (nomark _)) (pss_one (ps_ret (pe_fn DG hr (pa_cons (pe_ix ix_N (pe_ix ix_N (pv 0) pe_int (fun _ _ => rfl)) (pv 2) (fun _ _ => rfl)) (pa_cons (pv 3) pa_nil))))) pss_nil)
      (pss_cons (ps_set (i := 4) sc_ls.nd rfl (.inl rfl) (pe_fn DG hr (pa_cons (pe_ix ix_N (pe_ix ix_N (pv 0) pe_int (fun _ _ => rfl)) (pv 2) (fun _ _ => rfl)) (pa_cons (pv 3) pa_nil))))
      (pss_cons (ps_if (pt_cmpR op_eq (pv 1) pe_int (nomark _)) (pss_one (ps_ret (pv 4))) pss_nil)
      (pss_cons (ps_set (i := 5) sc_ls.nd rfl (.inl rfl) (pe_ifExp (pt_cmpR op_eq (pv 1) pe_int (nomark _)) pe_int pe_int))
      (pss_one (ps_ret (pe_callTy call_intB (by rfl) T.int (by decide +kernel) (pa_cons (pe_cmpR op_neB (pe_fn DG hr (pa_cons (pe_ix ix_N (pe_ix ix_N (pv 0) (pv 5) (fun _ _ => rfl)) (pv 2) (fun _ _ => rfl)) (pa_cons (pv 3) pa_nil))) (pv 4) (nomark _)) pa_nil))))))), ?_⟩
    have d2 := O.d2
    have hc3 := O.c1
    obtain ⟨zs, h1, h2⟩ := hq.len
    refine ⟨_, rfl, q, zs, rfl, h1, rfl, _, rfl, ?_⟩
    rw [h2]
    by_cases c1 : F.c = 1
    · rw [decide_eq_true (show nI F.c = V.int 1 by rw [c1]; rfl)]
      refine iteT ?_
      obtain ⟨zs, a, e1, e2, e3⟩ := hq.row (ch := 0) (by omega)
      refine ⟨_, rfl, q, zs, 0, _, rfl, rfl, e1, e2, _, rfl, a, _, px, _, rfl, rfl, e3, intsV_at hx, ?_⟩
      refine ⟨_, rfl, _, pl, rfl, by omega, ?_⟩
      unfold storedB at k
      rw [if_pos c1] at k
      exact k
    · rw [decide_eq_false (show ¬ nI F.c = V.int 1 by intro e; injection e with e; omega)]
      refine iteF ?_
      have c3 : F.c = 3 := by omega
      obtain ⟨zs, a, e1, e2, e3⟩ := hq.row (ch := 1) (by omega)
      refine ⟨_, rfl, q, zs, 1, _, rfl, rfl, e1, e2, _, rfl, a, _, px, _, rfl, rfl, e3, intsV_at hx, ?_⟩
      refine ⟨_, rfl, _, pl, rfl, by omega, ?_⟩
      unfold storedB at k
      rw [if_neg c1] at k
      refine ⟨_, rfl, rfl, _, rfl, ?_⟩
      by_cases z : ch = 0
      · rw [decide_eq_true (show nI ch = V.int 0 by rw [z]; rfl)]
        rw [if_pos z] at k
        exact ⟨_, rfl, k⟩
      · rw [decide_eq_false (show ¬ nI ch = V.int 0 by intro e; injection e with e; omega)]
        rw [if_neg z] at k
        refine iteF ?_
        refine ⟨_, rfl, rfl, _, rfl, ?_⟩
        by_cases y : ch = 1
        · rw [decide_eq_true (show nI ch = V.int 1 by rw [y]; rfl)]
          rw [if_pos y] at k
          refine iteT ?_
          obtain ⟨zs, a, e1, e2, e3⟩ := hq.row (ch := 0) (by omega)
          refine ⟨_, rfl, _, rfl, q, zs, 0, _, rfl, rfl, e1, e2, _, rfl, a, _, px, _, rfl, rfl, e3, intsV_at hx, ?_⟩
          exact ⟨_, rfl, _, pl, rfl, by omega, _, rfl, _, _, rfl, rfl, _, rfl, k⟩
        · rw [decide_eq_false (show ¬ nI ch = V.int 1 by intro e; injection e with e; omega)]
          rw [if_neg y] at k
          refine iteF ?_
          obtain ⟨zs, a, e1, e2, e3⟩ := hq.row (ch := 2) (by omega)
          refine ⟨_, rfl, _, rfl, q, zs, 2, _, rfl, rfl, e1, e2, _, rfl, a, _, px, _, rfl, rfl, e3, intsV_at hx, ?_⟩
          exact ⟨_, rfl, _, pl, rfl, by omega, _, rfl, _, _, rfl, rfl, _, rfl, k⟩
end
end PP
/-! ## 20. the law's helpers: pixels, packets -/
namespace PP
open PySem PySem.Spec PyProof.Rows L2
theorem sg_str (b : Bool) : (Str.mk #[if b then 49 else 48]) = sg b := by cases b <;> decide +kernel
/-- '01'[a bit] -/
theorem ix_sg {X : Cx} : IxR X (fun x y H Q => ∃ b : Bool, x = .str "01" ∧ y = bV b ∧ Q (.str (sg b)) H) := by
  intro value slice pins s σ H x y v u Q I rx ry h hs
  obtain ⟨b, rfl, rfl, q⟩ := h
  rw [← sg_str] at q
  refine ix_str (X := X) value slice pins s σ H _ _ v u Q I rx ry ⟨_, _, if b then 49 else 48, rfl, rfl, by decide +kernel, atI_nat ?_, q⟩ hs
  cases b <;> decide +kernel
section
variable {P : Program} {w : World} {K : PySem.W.Frag} {mg : Str → Option Value} {base : Heap} {f : Addr} {fd : FuncData}
abbrev nLp : List Str := ["_law_sizes_here", "_law_tile", "_law_across", "_law_left", "_law_top", "_law_pixels_here", "_law_y", "_law_x"]
theorem sc_lp : FnScope nLp ["_law_sizes_here", "_law_tile"] (defScope s_lp) := ⟨rfl, rfl, rfl, by decide +kernel, rfl, by decide +kernel, by decide +kernel⟩
theorem ok_lp (U : Fun K "_law_pixels" "_law_pixels" s_lp f fd) (T : Txt K mg) : FnOk P w K mg base CX0 1 f fd ["_law_sizes_here", "_law_tile"] spLPixels := by
  refine U.ok sc_lp (fun vs H Q E h => ?_) (fun cdv A outer s H vs Q E hr h => ?_)
  · obtain ⟨a, F, i, _, _, _, rfl, _⟩ := h
    rfl
  · obtain ⟨a, F, i, O, hi, ha, rfl, q⟩ := h
    refine ⟨_, pss_cons (ps_set (i := 2) sc_lp.nd rfl (.inl rfl) (pe_op op_fdivNN (pe_op op_subN (pe_op op_addN (pe_ix ix_N (pv 0) pe_int (fun _ _ => rfl)) (pe_ix ix_N (pv 0) pe_int (fun _ _ => rfl))) pe_int) (pe_ix ix_N (pv 0) pe_int (fun _ _ => rfl))))
      (pss_cons (ps_set (i := 3) sc_lp.nd rfl (.inl rfl) (pe_op op_mulN (pe_op op_modNN (pv 1) (pv 2)) (pe_ix ix_N (pv 0) pe_int (fun _ _ => rfl))))
      (pss_cons (ps_set (i := 4) sc_lp.nd rfl (.inl rfl) (pe_op op_mulN (pe_op op_fdivNN (pv 1) (pv 2)) (pe_ix ix_N (pv 0) pe_int (fun _ _ => rfl))))
      (pss_cons (ps_set (i := 5) sc_lp.nd rfl (.inl rfl) (pe_lst pa_nil))
      (pss_cons (ps_for PassesOwn.never rfl (pi_rngL T.range (pa_cons (pv 4) (pa_cons (pe_callB (call_minN rfl) (by rfl) T.min (by decide +kernel) (pa_cons (pe_op op_addN (pv 4) (pe_ix ix_N (pv 0) pe_int (fun _ _ => rfl))) (pa_cons (pe_ix ix_N (pv 0) pe_int (fun _ _ => rfl)) pa_nil))) pa_nil))) (pg_name (i := 6) sc_lp.nd rfl (.inr rfl))
        (pss_one (ps_set (i := 5) sc_lp.nd rfl (.inl rfl) (pe_op op_cat (pv 5) (pe_lc (own := [("_law_x", 7)]) (g := gName 7) (tt := tYes) rfl sc_lp.nd
          (pi_rngL T.range (pa_cons (pv 3) (pa_cons (pe_callB (call_minN rfl) (by rfl) T.min (by decide +kernel) (pa_cons (pe_op op_addN (pv 3) (pe_ix ix_N (pv 0) pe_int (fun _ _ => rfl))) (pa_cons (pe_ix ix_N (pv 0) pe_int (fun _ _ => rfl)) pa_nil))) pa_nil)))
          (blkOk_by (N := nLp) (sc := defScope s_lp) (by decide +kernel)) (fun _ _ _ _ _ => pg_name (i := 7) sc_lp.nd rfl (.inl rfl)) (fun _ _ _ _ _ => pts_nil)
          (fun _ _ _ _ _ => pe_op op_addN (pe_op op_mulN (pv 6) (pe_ix ix_N (pv 0) pe_int (fun _ _ => rfl))) (pv 7)))))))
      (pss_one (ps_ret (pv 5))))))), ?_⟩
    have w1 := O.w1; have w2 := O.w2; have h1 := O.h1; have h2 := O.h2; have t1 := O.t1; have t2 := O.t2
    have a1 := O.ac1; have a2 := O.ac2; have d2 := O.dn2; have n2 := O.nt2
    have ll := O.lf_lt i
    have tl := O.tp_lt hi
    have m1 : i % F.ac < F.ac := Nat.mod_lt _ a1
    have m2 : i / F.ac < F.dn := Nat.div_lt_of_lt_mul hi
    refine ⟨_, rfl, a, _, 0, _, rfl, rfl, ha, rfl, _, rfl, a, _, 4, _, rfl, rfl, ha, rfl, F.w, F.t, rfl, rfl, _, 1, rfl, rfl, by omega, _, rfl, a, _, 4, _, rfl, rfl, ha, rfl, _, F.t, rfl, rfl, ⟨t1, by omega⟩, ?_⟩
    refine ⟨_, rfl, _, rfl, i, F.ac, rfl, rfl, a1, _, rfl, a, _, 4, _, rfl, rfl, ha, rfl, _, F.t, rfl, rfl, by omega, ?_⟩
    refine ⟨_, rfl, _, rfl, i, F.ac, rfl, rfl, ⟨a1, by omega⟩, _, rfl, a, _, 4, _, rfl, rfl, ha, rfl, _, F.t, rfl, rfl, by omega, ?_⟩
    refine ⟨Nat.zero_le _, fun D0 hD0 => ?_⟩
    have s0 : Same H (upd H D0 (.lst [])) := Same.new hD0
    have ha0 := s0 _ _ ha
    refine ⟨_, rfl, _, rfl, _, rfl, a, _, 4, _, rfl, rfl, ha0, rfl, F.tp i, F.t, rfl, rfl, _, rfl, a, _, 1, _, rfl, rfl, ha0, rfl, _, F.h, rfl, F.tp i, _, rfl, ?_, by omega, ?_⟩
    · have := Nat.min_le_right (F.tp i + F.t) F.h
      omega
    have eh : min (F.tp i + F.t) F.h - F.tp i = F.th i := by unfold Fr.th; omega
    have ew : min (F.lf i + F.t) F.w - F.lf i = F.tw i := by unfold Fr.tw; omega
    have thl : F.th i ≤ 16 := by unfold Fr.th; omega
    have twl : F.tw i ≤ 16 := by unfold Fr.tw; omega
    have th2 : F.tp i + F.th i ≤ F.h := by unfold Fr.th; omega
    rw [eh]
    have rl : ∀ y, (F.rowPix i y).length = F.tw i := fun y => by simp [Fr.rowPix]
    refine for_rngL (fun y σ H' => ∃ D v6, σ = [some (.ref a), some (nI i), some (nI F.ac), some (nI (F.lf i)), some (nI (F.tp i)), some (.ref D), v6, none] ∧ Same H H' ∧ H' D = some (.lst (intsV ((List.range y).flatMap (F.rowPix i))))) ⟨D0, _, rfl, s0, upd_same⟩ ?_ ?_
    · rintro y σ H' hy ⟨D, v6, rfl, s1, hD⟩
      have ha1 := s1 _ _ ha
      refine ⟨_, rfl, _, rfl, _, rfl, _, rfl, a, _, 4, _, rfl, rfl, ha1, rfl, F.lf i, F.t, rfl, rfl, _, rfl, a, _, 0, _, rfl, rfl, ha1, rfl, _, F.w, rfl, F.lf i, _, rfl, ?_, by omega, fun D2 hD2 => ?_⟩
      · have := Nat.min_le_right (F.lf i + F.t) F.w
        omega
      rw [ew]
      refine it_rngL (fun x H2 => LA H' D2 H2 (intsV ((List.range x).map fun x => (F.tp i + y) * F.w + F.lf i + x))) (LA.new (Same.refl _) hD2) (fun x H2 hx L => ?_) (fun H2 L => ?_)
      · refine ⟨rfl, _, rfl, _, rfl, a, _, 0, _, rfl, rfl, L.same _ _ ha1, rfl, F.tp i + y, F.w, rfl, rfl, by omega, _, rfl, _, F.lf i + x, rfl, rfl, _, L.at_, small_of (m := 100) ?_, L.app ?_⟩
        · simp only [List.length_map, List.length_range]
          omega
        · rw [← Nat.add_assoc]
          exact intsV_snoc [] (fun x => (F.tp i + y) * F.w + F.lf i + x) x
      · refine ⟨D, D2, _, _, rfl, rfl, L.same _ _ hD, L.at_, ?_, fun p hp => ?_⟩
        · simp only [List.length_map, List.length_range, flatN rl]
          refine small_le (m := 1000) ?_
          have : y * F.tw i ≤ 16 * 16 := Nat.mul_le_mul (by omega) twl
          omega
        · refine ⟨p, _, rfl, (s1.trans L.same).trans (Same.new hp), ?_⟩
          rw [upd_same, ← flat_snoc]
          show _ = some (HO.lst (List.map _ _))
          rw [List.map_append]
          rfl
    · rintro σ H' ⟨D, v6, rfl, s1, hD⟩
      exact ⟨_, rfl, q H' D s1 hD⟩
abbrev nLb : List Str := ["_law_sizes_here", "_law_values_here", "_law_key", "_law_signs", "_law_pixel"]
theorem sc_lb : FnScope nLb ["_law_sizes_here", "_law_values_here", "_law_key"] (defScope s_lb) := ⟨rfl, rfl, rfl, by decide +kernel, rfl, by decide +kernel, by decide +kernel⟩
theorem ok_lb (U : Fun K "_law_bits" "_law_bits" s_lb f fd) (T : Txt K mg) (DP : Dfn P w K mg base 1 "_law_pixels" ["_law_sizes_here", "_law_tile"] spLPixels)
    (DS : Dfn P w K mg base 2 "_law_stored" ["_law_values_here", "_law_channel", "_law_pixel", "_law_plane"] spLStored) : FnOk P w K mg base CX0 3 f fd ["_law_sizes_here", "_law_values_here", "_law_key"] spLBits := by
  refine U.ok sc_lb (fun vs H Q E h => ?_) (fun cdv A outer s H vs Q E hr h => ?_)
  · obtain ⟨F, a, q, b, R, k, _, _, _, _, _, rfl, _⟩ := h
    rfl
  · obtain ⟨F, a, r, b, R, k, O, ha, hr', ok, hb, rfl, q⟩ := h
    refine ⟨_, pss_cons (ps_setLc (i := 3) (own := [("_law_pixel", 4)]) (g := gName 4) (tt := tYes) rfl sc_lb.nd rfl rfl (sw_true rfl rfl rfl (by decide +kernel)) (pi_list (pe_fn DP hr (pa_cons (pv 0) (pa_cons (pe_ix (ix_tp K) (pv 2) pe_int (fun _ _ => rfl)) pa_nil)))) (blkOk_by (N := nLb) (sc := defScope s_lb) (by decide +kernel))
        (fun _ _ _ _ _ => pg_name (i := 4) sc_lb.nd rfl (.inl rfl)) (fun _ _ _ _ _ => pts_nil)
        (fun _ _ _ _ _ => pe_ix ix_sg pe_str (pe_fn DS hr (pa_cons (pv 1) (pa_cons (pe_ix (ix_tp K) (pv 2) pe_int (fun _ _ => rfl)) (pa_cons (pv 4) (pa_cons (pe_ix (ix_tp K) (pv 2) pe_int (fun _ _ => rfl)) pa_nil))))) (fun _ _ => rfl)))
      (pss_one (ps_ret (pe_join pe_str (pv 3)))), ?_⟩
    obtain ⟨k1, k2, k3⟩ := id ok
    refine ⟨_, rfl, _, rfl, b, _, 1, _, rfl, rfl, SqT.of hb, rfl, a, F, k.tl, O, k2, ha, rfl, fun H1 l s1 hl => ?_⟩
    refine ⟨l, rfl, ⟨_, SqL.of hl⟩, fun D hD => ?_⟩
    refine it_lst (K := K) (a := l) (xs := intsV (F.pix k.tl)) (fun i H' => LA H1 D H' (((bitsB F R k).take i).map fun b => V.str (sg b))) (LA.new (Same.refl _) hD) (fun i H' L => SqL.of (L.same _ _ hl)) (fun i x H' hx L => ?_) (fun H' L => ?_)
    · obtain ⟨px, hpx, rfl⟩ := intsV_get hx
      have hlt : px < F.np := O.mem_lt k2 (List.mem_iff_getElem?.mpr ⟨i, hpx⟩)
      have hbit : (bitsB F R k)[i]? = some (storedB F.c (fun a => R a px) k.ch k.pl) := by
        unfold bitsB
        rw [List.getElem?_map, hpx]
        rfl
      have hb2 : H' b = _ := L.same _ _ (s1 _ _ hb)
      refine ⟨rfl, _, rfl, _, rfl, b, _, 0, _, rfl, rfl, SqT.of hb2, rfl, _, rfl, _, rfl, b, _, 2, _, rfl, rfl, SqT.of hb2, rfl, F, r, R, k.ch, px, k.pl, O, (hr'.same s1).same L.same, k1, hlt, k3, rfl, _, rfl, rfl, ?_⟩
      refine ⟨_, L.at_, small_of (m := 256) ?_, L.app ?_⟩
      · rw [List.length_map, List.length_take]
        have := O.pix_len k.tl
        have e : (bitsB F R k).length = (F.pix k.tl).length := List.length_map ..
        omega
      · rw [← take_snoc hbit, List.map_append]
        rfl
    · have el : (intsV (F.pix k.tl)).length = (bitsB F R k).length := by unfold bitsB; simp
      rw [el, List.take_length] at L
      refine ⟨⟨_, rfl⟩, _, rfl, _, D, (bitsB F R k).map sg, rfl, rfl, .inl (SqL.of ?_), ?_, ?_⟩
      · rw [List.map_map]
        exact L.at_
      · rw [sum_len]
        have := O.pix_len k.tl
        have e : (bitsB F R k).length = (F.pix k.tl).length := List.length_map ..
        have z : ("" : Str).length = 0 := by decide +kernel
        rw [z]
        omega
      · rw [join_txt]
        exact q H' (s1.trans L.same)
end
end PP
/-! ## 21. the law's helpers: drawn packets -/
namespace PP
open PySem PySem.Spec PyProof.Rows L2
theorem kk_inj {a b : Ky} (h : kk a = kk b) : a = b := by
  unfold kk at h
  injection h with h1 h
  injection h with h2 h
  injection h with h3 _
  injection h1 with h1
  injection h2 with h2
  injection h3 with h3
  obtain ⟨a1, a2, a3⟩ := a
  obtain ⟨b1, b2, b3⟩ := b
  simp only [Ky.mk.injEq]
  simp only at h1 h2 h3
  omega
theorem dicOf_get (P : Ky → List Bool) {k : Ky} : ∀ {ks : List Ky}, k ∈ ks → valV (dicOf P ks) (kk k) = some (.str (txt (P k)))
  | [], h => absurd h List.not_mem_nil
  | j :: r, h => by
    by_cases e : j = k
    · subst e
      exact valV_pos (p := (kk j, V.str (txt (P j)))) rfl
    · have e' : ¬ kk j = kk k := fun z => e (kk_inj z)
      show valV ((kk j, V.str (txt (P j))) :: dicOf P r) (kk k) = _
      rw [valV_neg (p := (kk j, V.str (txt (P j)))) e']
      exact dicOf_get P ((List.mem_cons.mp h).resolve_left fun z => e z.symm)
theorem dicOf_none (P : Ky → List Bool) {k : Ky} : ∀ {ks : List Ky}, k ∉ ks → valV (dicOf P ks) (kk k) = none
  | [], _ => rfl
  | j :: r, h => by
    have e' : ¬ kk j = kk k := fun z => h (by rw [kk_inj z]; exact List.mem_cons_self)
    show valV ((kk j, V.str (txt (P j))) :: dicOf P r) (kk k) = _
    rw [valV_neg (p := (kk j, V.str (txt (P j)))) e']
    exact dicOf_none P fun z => h (List.mem_cons_of_mem _ z)
theorem dicOf_snoc (P : Ky → List Bool) (ks : List Ky) (k : Ky) : dicOf P (ks ++ [k]) = dicOf P ks ++ [(kk k, .str (txt (P k)))] := by
  unfold dicOf
  rw [List.map_append]
  rfl
theorem dicOf_congr {P P' : Ky → List Bool} {ks : List Ky} (h : ∀ k ∈ ks, P k = P' k) : dicOf P ks = dicOf P' ks := List.map_congr_left fun k hk => by rw [h k hk]
/-- the key at a place is not among those ahead of it -/
theorem take_new {α : Type} {l : List α} (h : l.Nodup) {i : Nat} {x : α} (hx : l[i]? = some x) : x ∉ l.take i := by
  have e := take_snoc hx
  have n : (l.take (i + 1)).Nodup := h.sublist (List.take_sublist _ _)
  rw [← e] at n
  rw [List.nodup_append] at n
  intro z
  exact n.2.2 x z x (List.mem_singleton.mpr rfl) rfl
theorem sum_snoc {l : List Nat} {i x : Nat} (h : l[i]? = some x) : (l.take (i + 1)).sum = (l.take i).sum + x := by
  rw [← take_snoc h, List.sum_append]
  simp
theorem sum_take_le (l : List Nat) (i : Nat) : (l.take i).sum ≤ l.sum := by
  have e := List.take_append_drop i l
  have := congrArg List.sum e
  rw [List.sum_append] at this
  omega
theorem sum_le {l : List Nat} {m : Nat} (h : ∀ x ∈ l, x ≤ m) : l.sum ≤ l.length * m := by
  induction l with
  | nil => simp
  | cons a r ih =>
    have h1 := h a List.mem_cons_self
    have h2 := ih fun x hx => h x (List.mem_cons_of_mem _ hx)
    rw [List.sum_cons, List.length_cons, Nat.add_mul, Nat.one_mul]
    omega
theorem sum_cast (l : List Nat) : (l.map fun n : Nat => (n : Int)).sum = ((l.sum : Nat) : Int) := by
  induction l with
  | nil => rfl
  | cons a r ih => rw [List.map_cons, List.sum_cons, List.sum_cons, ih, Int.natCast_add]
theorem intsV_int (l : List Nat) : intsV l = (l.map fun n : Nat => (n : Int)).map V.int := by
  show List.map _ _ = _
  rw [List.map_map]
  rfl
theorem bits_of {n : Nat} {g : Nat → Nat} (h : ∀ p, p < n → g p < 2) : intsV ((List.range n).map g) = bitsV ((List.range n).map fun p => g p == 1) := by
  show List.map _ _ = List.map _ _
  rw [List.map_map, List.map_map]
  refine List.map_congr_left fun p hp => ?_
  have hp := h p (List.mem_range.mp hp)
  show nI (g p) = nI (g p == 1).toNat
  have : g p = 0 ∨ g p = 1 := by omega
  rcases this with e | e <;> rw [e] <;> rfl
theorem bitsV_get {bs : List Bool} {i : Nat} {x : V} (h : (bitsV bs)[i]? = some x) : ∃ b, bs[i]? = some b ∧ x = bV b := by
  rw [List.getElem?_map] at h
  cases e : bs[i]? with
  | none => rw [e] at h; cases h
  | some b => rw [e] at h; exact ⟨b, rfl, (Option.some.inj h).symm⟩
section
variable {P : Program} {w : World} {K : PySem.W.Frag} {mg : Str → Option Value} {base : Heap} {f : Addr} {fd : FuncData}
abbrev nLd : List Str := ["_law_frame", "_law_keys", "_law_cell_here", "_law_total", "_law_bits_here", "_law_packets", "_law_at", "_law_key", "_law_size", "_law_bit"]
theorem sc_ld : FnScope nLd ["_law_frame", "_law_keys", "_law_cell_here"] (defScope s_ld) := ⟨rfl, rfl, rfl, by decide +kernel, rfl, by decide +kernel, by decide +kernel⟩
theorem ok_ld (U : Fun K "_law_drawn" "_law_drawn" s_ld f fd) (T : Txt K mg) (DT : Dfn P w K mg base 4 "tile_pixels" ["frame", "tile"] (spPixels K))
    (DN : Dfn P w K mg base 2 "_law_numbers" ["_law_cell_here", "_law_count", "_law_limit"] spNumbers) : FnOk P w K mg base CX0 5 f fd ["_law_frame", "_law_keys", "_law_cell_here"] (spDrawn K) := by
  refine U.ok sc_ld (fun vs H Q E h => ?_) (fun cdv A outer s H vs Q E hr h => ?_)
  · obtain ⟨F, f, l, n, _, _, _, rfl, _⟩ := h
    rfl
  · obtain ⟨F, f, l, n, O, hf, hk, rfl, q⟩ := h
    have hu := hu_of hr
    refine ⟨_, pss_cons (ps_set (i := 3) sc_ld.nd rfl (.inl rfl) (pe_callB (cr_sum rfl) (by rfl) T.sum (by decide +kernel) (pa_cons (pe_lc (own := [("_law_key", 7)]) (g := gName 7) (tt := tYes) rfl sc_ld.nd (pi_list (pv 1)) (blkOk_by (N := nLd) (sc := defScope s_ld) (by decide +kernel))
        (fun _ _ _ _ _ => pg_name (i := 7) sc_ld.nd rfl (.inl rfl)) (fun _ _ _ _ _ => pts_nil) (fun _ _ _ _ _ => pe_callB cr_len1 (by rfl) T.len PySem.boot_len (pa_cons (pe_fn DT hr (pa_cons (pv 0) (pa_cons (pe_ix (ix_tp K) (pv 7) pe_int (fun _ _ => rfl)) pa_nil))) pa_nil))) pa_nil)))
      (pss_cons (ps_set (i := 4) sc_ld.nd rfl (.inl rfl) (pe_fn DN hr (pa_cons (pv 2) (pa_cons (pv 3) (pa_cons pe_int pa_nil)))))
      (pss_cons (ps_set (i := 5) sc_ld.nd rfl (.inl rfl) pe_dnewT)
      (pss_cons (ps_set (i := 6) sc_ld.nd rfl (.inl rfl) pe_int)
      (pss_cons (ps_for PassesOwn.never rfl (pi_list (pv 1)) (pg_name (i := 7) sc_ld.nd rfl (.inl rfl))
        (pss_cons (ps_set (i := 8) sc_ld.nd rfl (.inl rfl) (pe_callB cr_len1 (by rfl) T.len PySem.boot_len (pa_cons (pe_fn DT hr (pa_cons (pv 0) (pa_cons (pe_ix (ix_tp K) (pv 7) pe_int (fun _ _ => rfl)) pa_nil))) pa_nil)))
        (pss_cons (ps_dput hu (pv 5) (pv 7) (pe_join pe_str (pe_lc (own := [("_law_bit", 9)]) (g := gName 9) (tt := tYes) rfl sc_ld.nd (pi_list (pe_slice sl_list (pv 4) (po_some (pv 6)) (po_some (pe_op op_addN (pv 6) (pv 8))))) (blkOk_by (N := nLd) (sc := defScope s_ld) (by decide +kernel))
          (fun _ _ _ _ _ => pg_name (i := 9) sc_ld.nd rfl (.inl rfl)) (fun _ _ _ _ _ => pts_nil) (fun _ _ _ _ _ => pe_ix ix_sg pe_str (pv 9) (fun _ _ => rfl)))) rfl)
        (pss_one (ps_set (i := 6) sc_ld.nd rfl (.inl rfl) (pe_op op_addN (pv 6) (pv 8)))))))
      (pss_one (ps_ret (pv 5))))))), ?_⟩
    obtain ⟨bs, hl, hbs⟩ := id hk
    have elen : (bs.map V.ref).length = F.keys.length := by rw [List.length_map]; exact Paired.length hbs
    have lenb : ∀ x ∈ (F.keys.map fun k => (F.pix k.tl).length), x ≤ 256 := fun x hx => by
      obtain ⟨k, _, rfl⟩ := List.mem_map.mp hx
      exact O.pix_len k.tl
    have kl := keys_len O
    have tot := sum_le lenb
    rw [List.length_map] at tot
    have tot2 : F.keys.length * 256 ≤ 6144 * 256 := Nat.mul_le_mul_right _ kl
    refine ⟨_, rfl, l, rfl, ⟨_, SqL.of hl⟩, fun D hD => ?_⟩
    refine it_lst (K := K) (a := l) (xs := bs.map V.ref) (fun i H' => LA H D H' (intsV ((F.keys.map fun k => (F.pix k.tl).length).take i))) (LA.new (Same.refl _) hD) (fun i H' L => SqL.of (L.same _ _ hl)) (fun i x H' hx L => ?_) (fun H1 L => ?_)
    · obtain ⟨b, hb, rfl⟩ := refs_get hx
      obtain ⟨k, hk1, hk2⟩ := paired_get hbs hb
      have ok : F.keyOk k := mem_keys.mp (List.mem_iff_getElem?.mpr ⟨i, hk1⟩)
      have hk2' : H' b = _ := L.same _ _ hk2
      refine ⟨rfl, _, rfl, _, rfl, b, _, 1, _, rfl, rfl, SqT.of hk2', rfl, F, f, k.tl, O, ok.2.1, hf.same L.same, rfl, fun H2 a s2 _ ha => ?_⟩
      refine ⟨a, _, rfl, ha, ?_⟩
      have L2 := L.grow s2
      refine ⟨_, L2.at_, small_of (m := 6144) ?_, L2.app ?_⟩
      · rw [List.length_map, List.length_take, List.length_map]
        omega
      · have e : (F.keys.map fun k => (F.pix k.tl).length)[i]? = some (F.pix k.tl).length := by rw [List.getElem?_map, hk1]; rfl
        rw [← take_snoc e, List.length_map]
        show _ = List.map _ _
        rw [List.map_append]
        rfl
    · rw [elen, show F.keys.length = (F.keys.map fun k => (F.pix k.tl).length).length from (List.length_map ..).symm, List.take_length] at L
      generalize hls : (F.keys.map fun k => (F.pix k.tl).length) = ls at *
      refine ⟨D, ls.map fun n : Nat => (n : Int), rfl, ?_, ?_⟩
      · rw [← intsV_int]
        exact SqL.of L.at_
      rw [sum_cast]
      refine ⟨_, rfl, _, rfl, n, ls.sum, 2, by decide, by decide, by omega, rfl, fun H2 c ns s2 hc hlen hz => ?_⟩
      have s02 := L.same.trans s2
      intro d hd
      have s3 : Same H2 (upd H2 d (.dT [])) := Same.new hd
      have hkeys : ∀ {H' : Hp}, Same H2 H' → H' l = some (.lst (bs.map V.ref)) := fun s => s _ _ (s02 _ _ hl)
      refine ⟨_, rfl, l, rfl, ⟨_, SqL.of (hkeys s3)⟩, ?_⟩
      refine for_list (K := K) (a := l) (xs := bs.map V.ref) (fun i σ H' => ∃ (Pk : Ky → List Bool) (v7 v8 : Option V), σ = [some (.ref f), some (.ref l), some (.int n), some (nI ls.sum), some (.ref c), some (.ref d), some (nI (ls.take i).sum), v7, v8, none] ∧ Same H2 H' ∧
        H' d = some (.dT (dicOf Pk (F.keys.take i))) ∧ ∀ k ∈ F.keys.take i, (Pk k).length = (F.pix k.tl).length) ⟨fun _ => [], _, _, rfl, s3, upd_same, fun k h => absurd h List.not_mem_nil⟩ (fun i σ H' _ ⟨_, _, _, _, s, _⟩ => SqL.of (hkeys s)) ?_ ?_
      · rintro i x σ H3 hx ⟨Pk, v7, v8, rfl, s4, hd3, hP⟩
        obtain ⟨b, hb, rfl⟩ := refs_get hx
        obtain ⟨k, hk1, hk2⟩ := paired_get hbs hb
        have ok : F.keyOk k := mem_keys.mp (List.mem_iff_getElem?.mpr ⟨i, hk1⟩)
        have s03 := s02.trans s4
        have e : ls[i]? = some (F.pix k.tl).length := by rw [← hls, List.getElem?_map, hk1]; rfl
        refine ⟨_, rfl, _, rfl, b, _, 1, _, rfl, rfl, SqT.of (s03 _ _ hk2), rfl, F, f, k.tl, O, ok.2.1, hf.same s03, rfl, fun H4 a s5 _ ha => ?_⟩
        refine ⟨a, _, rfl, ha, ?_⟩
        rw [List.length_map]
        have hsum := sum_snoc e
        have hle := sum_take_le ls (i + 1)
        have hlen4 : (F.pix k.tl).length ≤ 256 := O.pix_len k.tl
        generalize hm : (F.pix k.tl).length = m at *
        generalize (ls.take i).sum = at0 at *
        have s24 := s4.trans s5
        refine ⟨⟨_, rfl⟩, _, rfl, _, rfl, _, rfl, _, rfl, _, rfl, _, _, rfl, rfl, _, rfl, c, _, rfl, SqL.of (s24 _ _ hc), fun r hr4 => ?_⟩
        rw [cut_row (by omega), bits_of fun p hp => by
          rw [List.getD_eq_getElem?_getD, List.getElem?_eq_getElem (by omega)]
          exact hz _ (List.getElem_mem _)]
        generalize hbb : ((List.range m).map fun p => ns.getD (at0 + p) 0 == 1) = bb
        have hbl : bb.length = m := by rw [← hbb]; simp
        refine ⟨r, rfl, ⟨_, SqL.of upd_same⟩, fun D2 hD2 => ?_⟩
        have s4r : Same H4 (upd H4 r (.lst (bitsV bb))) := Same.new hr4
        refine it_lst (K := K) (a := r) (xs := bitsV bb) (fun j H' => LA (upd H4 r (.lst (bitsV bb))) D2 H' ((bb.take j).map fun b => V.str (sg b))) (LA.new (Same.refl _) hD2) (fun j H' L => SqL.of (L.same _ _ upd_same)) (fun j x H' hx L => ?_) (fun H' L => ?_)
        · obtain ⟨bt, hbt, rfl⟩ := bitsV_get hx
          refine ⟨rfl, _, rfl, bt, rfl, rfl, _, L.at_, small_of (m := 256) ?_, L.app ?_⟩
          · rw [List.length_map, List.length_take]
            omega
          · rw [← take_snoc hbt, List.map_append]
            rfl
        · have el : (bitsV bb).length = bb.length := List.length_map ..
          rw [el, List.take_length] at L
          refine ⟨_, D2, bb.map sg, rfl, rfl, .inl (SqL.of ?_), ?_, ?_⟩
          · rw [List.map_map]
            exact L.at_
          · rw [sum_len]
            have z : ("" : Str).length = 0 := by decide +kernel
            rw [z]
            omega
          · rw [join_txt]
            have s2' : Same H2 H' := s24.trans (s4r.trans L.same)
            have hd' : H' d = some (.dT (dicOf Pk (F.keys.take i))) := (s5.trans (s4r.trans L.same)) _ _ hd3
            have new := take_new (keys_nodup F) hk1
            refine ⟨_, rfl, _, rfl, d, _, rfl, DPut.t (k := kk k) hd' (s2' _ _ (s02 _ _ hk2)) (small_of (m := 6144) ?_), ?_⟩
            · unfold dicOf
              rw [List.length_map, List.length_take]
              omega
            · refine ⟨_, rfl, _, rfl, _, _, rfl, rfl, fun k' => if k' = k then bb else Pk k', some (.ref b), some (nI m), ?_, Same.put s2' hd, ?_, ?_⟩
              · rw [hsum]
                rfl
              · rw [upd_same, ← take_snoc hk1, dicOf_snoc, putK_new _ (dicOf_none Pk new)]
                have e1 : dicOf Pk (F.keys.take i) = dicOf (fun k' => if k' = k then bb else Pk k') (F.keys.take i) := dicOf_congr fun k' hk' => by
                  show _ = if k' = k then bb else Pk k'
                  rw [if_neg fun z => new (by rw [← z]; exact hk')]
                rw [e1]
                show _ = some (HO.dT (_ ++ [(kk k, V.str (txt (if k = k then bb else Pk k)))]))
                rw [if_pos rfl]
              · intro k' hk'
                show (if k' = k then bb else Pk k').length = _
                by_cases z : k' = k
                · rw [if_pos z, hbl, z, hm]
                · rw [if_neg z]
                  rw [← take_snoc hk1] at hk'
                  exact hP k' ((List.mem_append.mp hk').resolve_right fun y => z (List.mem_singleton.mp y))
      · rintro σ H3 ⟨Pk, v7, v8, rfl, s4, hd3, hP⟩
        refine ⟨_, rfl, ?_⟩
        rw [elen, List.take_length] at hd3 hP
        exact q H3 d Pk (s02.trans s4) (fun k ok => hP k (mem_keys.mpr ok)) hd3
end
end PP
/-! ## 22. the law -/
namespace PP
open PySem PySem.Spec PyProof.Rows L2
/-- nothing but the dict at p has changed -/
def SD (p : Addr) (H H' : Hp) : Prop := ∀ b o, b ≠ p → H b = some o → H' b = some o
theorem SD.refl (p : Addr) (H : Hp) : SD p H H := fun _ _ _ e => e
theorem SD.add {p : Addr} {H H1 H2 : Hp} (h : SD p H H1) (s : Same H1 H2) : SD p H H2 := fun b o n e => s _ _ (h b o n e)
theorem SD.put {p : Addr} {H H1 : Hp} {o : HO} (h : SD p H H1) : SD p H (upd H1 p o) := fun b o' n e => by
  rw [upd_ne n]
  exact h b o' n e
section
variable {K : PySem.W.Frag} {H H' : Hp} {p : Addr} {kvs : List (List Key × V)}
theorem FrA.sd {a : Addr} {F : Fr} (h : FrA K H a F) (s : SD p H H') (hp : H p = some (.dT kvs)) : FrA K H' a F := let ⟨dx, e⟩ := h; ⟨dx, s _ _ (ne_of e hp (by intro z; cases z)) e⟩
theorem RowsA.sd {q : Addr} {rs : List (List Nat)} (h : RowsA H q rs) (s : SD p H H') (hp : H p = some (.dT kvs)) : RowsA H' q rs :=
  let ⟨ps, e, r⟩ := h; ⟨ps, s _ _ (ne_of e hp (by intro z; cases z)) e, Paired.mapP r fun _ _ z => s _ _ (ne_of z hp (by intro z; cases z)) z⟩
theorem PicA.sd {a : Addr} {F : Fr} {R : Nat → Nat → Nat} (h : PicA K H a F R) (s : SD p H H') (hp : H p = some (.dT kvs)) : PicA K H' a F R :=
  let ⟨dx, q, e, r⟩ := h; ⟨dx, q, s _ _ (ne_of e hp (by intro z; cases z)) e, r.sd s hp⟩
theorem KeysA.sd {a : Addr} {ks : List Ky} (h : KeysA H a ks) (s : SD p H H') (hp : H p = some (.dT kvs)) : KeysA H' a ks :=
  let ⟨bs, e, r⟩ := h; ⟨bs, s _ _ (ne_of e hp (by intro z; cases z)) e, Paired.mapP r fun _ _ z => s _ _ (ne_of z hp (by intro z; cases z)) z⟩
end
theorem rows_ext {F : Fr} {R R2 : Nat → Nat → Nat} (h : ∀ ch p, ch < F.c → p < F.np → R ch p = R2 ch p) : rowsOf F R = rowsOf F R2 :=
  List.map_congr_left fun ch hc => List.map_congr_left fun p hp => h ch p (List.mem_range.mp hc) (List.mem_range.mp hp)
theorem bitsB_len (F : Fr) (R : Nat → Nat → Nat) (k : Ky) : (bitsB F R k).length = (F.pix k.tl).length := List.length_map ..
theorem dicOf_all {P : Ky → List Bool} {ks ls : List Ky} (h : ∀ k ∈ ks, k ∈ ls) : ∀ p ∈ dicOf P ks, valV (dicOf P ls) p.1 = some p.2 ∧ flatB p.2 = true := fun p hp => by
  obtain ⟨k, hk, rfl⟩ := List.mem_map.mp hp
  exact ⟨dicOf_get P (h k hk), rfl⟩
theorem nodup_rev {α : Type} {l : List α} (h : l.Nodup) : l.reverse.Nodup := List.pairwise_reverse.mpr (List.Pairwise.imp (fun h => Ne.symm h) h)
theorem rev_at {α : Type} {l : List α} {i : Nat} {x : α} (hi : i < l.length) (h : l[l.length - 1 - i]? = some x) : l.reverse[i]? = some x := by
  rw [List.getElem?_reverse hi]
  exact h
section
variable {P : Program} {w : World} {K : PySem.W.Frag} {mg : Str → Option Value} {base : Heap} {f : Addr} {fd : FuncData}
abbrev nLw : List Str := ["_law_script", "_law_sizes_here", "_law_frame", "_law_keys", "_law_packets", "_law_passed", "_law_key", "_law_picture", "_law_rows", "_law_values_here", "_law_other", "_law_back"]
theorem sc_lw : FnScope nLw ["_law_script"] (defScope s_lw) := ⟨rfl, rfl, rfl, by decide +kernel, rfl, by decide +kernel, by decide +kernel⟩
theorem ok_lw (U : Fun K "law" "law" s_lw f fd) (T : Txt K mg)
    (DC : Dfn P w K mg base 1 "_law_cell" ["_law_script", "_law_k"] (spCell K)) (DZ : Dfn P w K mg base 3 "_law_sizes" ["_law_cell_here", "_law_most"] spSizes)
    (DFr : Mkr P w K mg base 2 (CF K) "Frame" ["self", "width", "height", "depth", "channels", "tile"] (spFI K)) (DLT : Dfn P w K mg base 1 "_law_tiles" ["_law_sizes_here"] spLTiles)
    (DO : Dfn P w K mg base 1 "_law_order" ["_law_sizes_here", "_law_tiles_here"] spLOrder) (DD : Dfn P w K mg base 5 "_law_drawn" ["_law_frame", "_law_keys", "_law_cell_here"] (spDrawn K))
    (DPO : Dfn P w K mg base 6 "picture_of" ["frame", "packets"] (spPictureOf K)) (DF : Dfn P w K mg base 1 "fits_frame" ["frame", "picture"] (spFits K))
    (DR : Mth P w K mg base 1 (CP K) "rows" ["self"] (spRows K)) (DPB : Dfn P w K mg base 5 "packet_bits" ["frame", "picture", "key"] (spPacketBits K))
    (DLB : Dfn P w K mg base 3 "_law_bits" ["_law_sizes_here", "_law_values_here", "_law_key"] spLBits) (DLV : Dfn P w K mg base 3 "_law_values" ["_law_cell_here", "_law_sizes_here"] spLValues)
    (DPI : Mkr P w K mg base 2 (CP K) "Picture" ["self", "width", "height", "depth", "channels", "values"] (spPI K)) (DE : Mth P w K mg base 2 (CP K) "same" ["self", "other"] (spSame K)) :
    FnOk P w K mg base CX0 7 f fd ["_law_script"] (spLaw K) := by
  refine U.ok sc_lw (fun vs H Q E h => ?_) (fun cdv A outer s H vs Q E hr h => ?_)
  · obtain ⟨a, ns, rfl, _⟩ := h
    rfl
  · obtain ⟨a, ns, rfl, hS, hlen, q⟩ := h
    have hu := hu_of hr
    refine ⟨_, pss_cons (ps_set (i := 1) sc_lw.nd rfl (.inl rfl) (pe_fn DZ hr (pa_cons (pe_fn DC hr (pa_cons (pv 0) (pa_cons pe_int pa_nil))) (pa_cons (pe_ifExp (pt_cmpR op_eq (pe_op op_modA (pe_fn DC hr (pa_cons (pv 0) (pa_cons pe_int pa_nil))) pe_int) pe_int (nomark _)) pe_int pe_int) pa_nil))))
      (pss_cons (ps_set (i := 2) sc_lw.nd rfl (.inl rfl) (pe_mk DFr hr (pa_cons (pe_ix ix_N (pv 1) pe_int (fun _ _ => rfl)) (pa_cons (pe_ix ix_N (pv 1) pe_int (fun _ _ => rfl)) (pa_cons (pe_ix ix_N (pv 1) pe_int (fun _ _ => rfl)) (pa_cons (pe_ix ix_N (pv 1) pe_int (fun _ _ => rfl)) (pa_cons (pe_ix ix_N (pv 1) pe_int (fun _ _ => rfl)) pa_nil)))))))
      (pss_cons (ps_set (i := 3) sc_lw.nd rfl (.inl rfl) (pe_fn DO hr (pa_cons (pv 1) (pa_cons (pe_fn DLT hr (pa_cons (pv 1) pa_nil)) pa_nil))))
      (pss_cons (ps_set (i := 4) sc_lw.nd rfl (.inl rfl) (pe_fn DD hr (pa_cons (pv 2) (pa_cons (pv 3) (pa_cons (pe_fn DC hr (pa_cons (pv 0) (pa_cons pe_int pa_nil))) pa_nil)))))
      (pss_cons (ps_set (i := 5) sc_lw.nd rfl (.inl rfl) pe_dnewT)
      (pss_cons (ps_for PassesOwn.never rfl (pi_reversed (by rfl) T.reversed (pa_cons (pv 3) pa_nil)) (pg_name (i := 6) sc_lw.nd rfl (.inl rfl))
        (pss_one (ps_dput hu (pv 5) (pv 6) (pe_dget hu (pv 4) (pv 6) (fun _ _ => rfl)) rfl)))
      (pss_cons (ps_set (i := 7) sc_lw.nd rfl (.inl rfl) (pe_fn DPO hr (pa_cons (pv 2) (pa_cons (pv 5) pa_nil))))
      (pss_cons (ps_if (PW.pt (pw_or (pt_cmpR (op_ne_dT hu) (pv 5) (pv 4) (nomark _)) (pw_or1 (pt_cmpR op_notBl (pe_fn DF hr (pa_cons (pv 2) (pa_cons (pv 7) pa_nil))) pe_bl (nomark _))))) pss_never pss_nil)
      (pss_cons (ps_set (i := 8) sc_lw.nd rfl (.inl rfl) (pe_mt0 DR T.clP hr (pv 7)))
      (pss_cons (ps_for PassesOwn.never rfl (pi_list (pv 3)) (pg_name (i := 6) sc_lw.nd rfl (.inl rfl))
        (pss_one (ps_if (PW.pt (pw_or (pt_cmpR op_ne (pe_fn DPB hr (pa_cons (pv 2) (pa_cons (pv 7) (pa_cons (pv 6) pa_nil)))) (pe_dget hu (pv 4) (pv 6) (fun _ _ => rfl)) (nomark _))
          (pw_or1 (pt_cmpR op_ne (pe_fn DLB hr (pa_cons (pv 1) (pa_cons (pv 8) (pa_cons (pv 6) pa_nil)))) (pe_dget hu (pv 4) (pv 6) (fun _ _ => rfl)) (nomark _))))) pss_never pss_nil)))
      (pss_cons (ps_set (i := 9) sc_lw.nd rfl (.inl rfl) (pe_fn DLV hr (pa_cons (pe_fn DC hr (pa_cons (pv 0) (pa_cons pe_int pa_nil))) (pa_cons (pv 1) pa_nil))))
      (pss_cons (ps_set (i := 10) sc_lw.nd rfl (.inl rfl) (pe_mk DPI hr (pa_cons (pe_ix ix_N (pv 1) pe_int (fun _ _ => rfl)) (pa_cons (pe_ix ix_N (pv 1) pe_int (fun _ _ => rfl)) (pa_cons (pe_ix ix_N (pv 1) pe_int (fun _ _ => rfl)) (pa_cons (pe_ix ix_N (pv 1) pe_int (fun _ _ => rfl)) (pa_cons (pv 9) pa_nil)))))))
      (pss_cons (ps_for PassesOwn.never rfl (pi_list (pv 3)) (pg_name (i := 6) sc_lw.nd rfl (.inl rfl))
        (pss_one (ps_dput hu (pv 5) (pv 6) (pe_fn DPB hr (pa_cons (pv 2) (pa_cons (pv 10) (pa_cons (pv 6) pa_nil)))) rfl)))
      (pss_cons (ps_set (i := 11) sc_lw.nd rfl (.inl rfl) (pe_fn DPO hr (pa_cons (pv 2) (pa_cons (pv 5) pa_nil))))
      (pss_one (ps_ret (pe_and (pe_cmpR (op_eqV hr.units) (pe_mt0 DR T.clP hr (pv 11)) (pv 9) (nomark _)) (pe_and (pe_cmpR op_isBl (pe_mt DE T.clP hr (pv 11) (pa_cons (pv 10) pa_nil)) pe_bl (nomark _)) (pe_one (pe_cmpR (op_eqV hr.units) (pe_mt0 DR T.clP hr (pv 7)) (pv 8) (nomark _)))))))))))))))))))), ?_⟩
    -- sizes
    refine ⟨_, rfl, a, ns, 0, hS, rfl, fun z0 => ?_⟩
    refine ⟨_, rfl, a, ns, 1, hS, rfl, fun z1 => ⟨_, 4, rfl, rfl, by decide, fun z hz => ?_⟩⟩
    refine ⟨rfl, _, rfl, ite_tC ?_⟩
    obtain ⟨m, m1, m2, em⟩ : ∃ m : Nat, 1 ≤ m ∧ m ≤ 16 ∧ (if decide (nI z = V.int 1) = true then V.int 16 else V.int 5) = nI m := by
      cases decide (nI z = V.int 1)
      · exact ⟨5, by decide, by decide, rfl⟩
      · exact ⟨16, by decide, by decide, rfl⟩
    rw [em]
    refine ⟨z0, m, m1, m2, rfl, fun H1 sl F O s1 hsz1 => ?_⟩
    -- frame
    refine ⟨_, rfl, sl, _, 0, _, rfl, rfl, hsz1, rfl, _, rfl, sl, _, 1, _, rfl, rfl, hsz1, rfl, _, rfl, sl, _, 2, _, rfl, rfl, hsz1, rfl, _, rfl, sl, _, 3, _, rfl, rfl, hsz1, rfl, _, rfl, sl, _, 4, _, rfl, rfl, hsz1, rfl, fun x dx hx hdx ne => ?_⟩
    have nx1 : upd H1 dx (.own x) x = none := by rw [upd_ne ne.symm]; exact hx
    refine ⟨F, x, dx, O, rfl, upd_same, rfl, ?_⟩
    have s2 : Same H1 (upd (upd (upd H1 dx (.own x)) x (.ins (CF K) dx [])) x (.ins (CF K) dx (fsF F))) := Same.put ((Same.new hdx).trans (Same.new nx1)) hx
    have hf2 : FrA K (upd (upd (upd H1 dx (.own x)) x (.ins (CF K) dx [])) x (.ins (CF K) dx (fsF F))) x F := ⟨dx, upd_same⟩
    generalize upd (upd (upd H1 dx (.own x)) x (.ins (CF K) dx [])) x (.ins (CF K) dx (fsF F)) = H2 at s2 hf2 ⊢
    have hsz2 := s2 _ _ hsz1
    -- keys
    refine ⟨_, rfl, _, rfl, sl, F, O, hsz2, rfl, sl, F, O, hsz2, rfl, fun H3 l s3 hk3 => ?_⟩
    have hf3 := hf2.same s3
    have hS3 := (s1.trans (s2.trans s3)).seq hS
    -- packets
    refine ⟨_, rfl, _, rfl, _, rfl, a, ns, 2, hS3, rfl, fun z2 => ⟨F, x, l, z2, O, hf3, hk3, rfl, fun H4 d Pk s4 hPl hd4 => ?_⟩⟩
    -- passed
    intro p hp4
    have s5 : Same H4 (upd H4 p (.dT [])) := Same.new hp4
    have kl := keys_len O
    have nd : d ≠ p := ne_of_none hd4 hp4
    have hk4 := hk3.same s4
    obtain ⟨bs4, hl4, hbs4⟩ := id hk4
    have elen : (bs4.map V.ref).length = F.keys.length := by rw [List.length_map]; exact Paired.length hbs4
    have hl5 := s5 _ _ hl4
    refine ⟨_, rfl, l, _, rfl, SqL.of hl5, ?_⟩
    refine RT.for_Itv (K := K) (a := l) (xs := bs4.map V.ref) (fun i σ H' => ∃ v6, σ = [some (.ref a), some (.ref sl), some (.ref x), some (.ref l), some (.ref d), some (.ref p), v6, none, none, none, none, none] ∧ Same H4 H' ∧ H' p = some (.dT (dicOf Pk (F.keys.reverse.take i)))) ⟨_, rfl, s5, upd_same⟩ (fun i σ H' ⟨_, _, s, _⟩ => SqL.of (s _ _ hl4)) ?_ ?_
    · rintro i y σ H' hi hy ⟨v6, rfl, s6, hp6⟩
      obtain ⟨b, hb, rfl⟩ := refs_get hy
      obtain ⟨k, hk1, hk2⟩ := paired_get hbs4 hb
      have hrev : F.keys.reverse[i]? = some k := rev_at (by omega) (by rw [← elen]; exact hk1)
      have hmem : k ∈ F.keys := List.mem_iff_getElem?.mpr ⟨_, hk1⟩
      refine ⟨_, rfl, _, rfl, d, .str (txt (Pk k)), rfl, ?_, ?_⟩
      · rw [← dicOf_get Pk hmem]
        exact DGet.t (k := kk k) (s6 _ _ hd4) (s6 _ _ hk2)
      refine ⟨_, rfl, _, rfl, p, _, rfl, DPut.t (k := kk k) hp6 (s6 _ _ hk2) (small_of (m := 6144) ?_), _, rfl, Same.put s6 hp4, ?_⟩
      · unfold dicOf
        rw [List.length_map, List.length_take, List.length_reverse]
        omega
      · have new := take_new (nodup_rev (keys_nodup F)) hrev
        rw [upd_same, ← take_snoc hrev, dicOf_snoc, putK_new _ (dicOf_none Pk new)]
    rintro σ H6 ⟨v6, rfl, s6, hp6⟩
    rw [elen, ← List.length_reverse, List.take_length] at hp6
    -- the picture
    have hf6 := (hf3.same s4).same s6
    refine ⟨_, rfl, _, rfl, F, x, p, Pk, O, hf6, ⟨_, hp6, fun k ok => dicOf_get Pk (List.mem_reverse.mpr (mem_keys.mpr ok))⟩, hPl, rfl, fun H7 pc s7 hpic7 => ?_⟩
    have hd7 := s7 _ _ (s6 _ _ hd4)
    have hf7 := hf6.same s7
    refine ⟨_, rfl, _, rfl, p, d, _, _, rfl, rfl, s7 _ _ hp6, hd7, ?_, dicOf_all fun k hk => List.mem_reverse.mp hk, _, rfl, iteF ?_⟩
    · unfold dicOf
      rw [List.length_map, List.length_map, List.length_reverse]
    refine ⟨_, rfl, _, rfl, F, x, pc, _, hf7, hpic7, rfl, true, true, rfl, rfl, _, rfl, iteNS rfl ?_⟩
    -- the rows
    obtain ⟨dxc, qc, hpc7, hqc7⟩ := id hpic7
    refine ⟨_, rfl, pc, dxc, _, rfl, hpc7, (fP_noM F qc).2.1, F, pc, _, O, hpic7, rfl, fun H8 rw8 s8 hrw8 => ?_⟩
    have s48 : Same H4 H8 := s6.trans (s7.trans s8)
    refine ⟨_, rfl, l, rfl, ⟨_, SqL.of (s48 _ _ hl4)⟩, ?_⟩
    refine for_list (K := K) (a := l) (xs := bs4.map V.ref) (fun i σ H' => ∃ v6, σ = [some (.ref a), some (.ref sl), some (.ref x), some (.ref l), some (.ref d), some (.ref p), v6, some (.ref pc), some (.ref rw8), none, none, none] ∧ Same H8 H') ⟨_, rfl, Same.refl _⟩ (fun i σ H' _ ⟨_, _, s⟩ => SqL.of (s _ _ (s48 _ _ hl4))) ?_ ?_
    · rintro i y σ H9 hy ⟨v6, rfl, s9⟩
      obtain ⟨b, hb, rfl⟩ := refs_get hy
      obtain ⟨k, hk1, hk2⟩ := paired_get hbs4 hb
      have hmem : k ∈ F.keys := List.mem_iff_getElem?.mpr ⟨_, hk1⟩
      have ok : F.keyOk k := mem_keys.mp hmem
      have s49 := s48.trans s9
      have s79 := s8.trans s9
      refine ⟨_, rfl, _, rfl, _, rfl, F, x, pc, b, _, k, O, hf7.same s79, hpic7.same s79, ok, s49 _ _ hk2, rfl, fun H10 s10 => ?_⟩
      have e := bits_pic O ok (hPl k ok)
      have s4a := s49.trans s10
      refine ⟨_, rfl, _, rfl, d, .str (txt (Pk k)), rfl, ?_, rfl, _, rfl, iteNS (by rw [e]) ?_⟩
      · rw [← dicOf_get Pk hmem]
        exact DGet.t (k := kk k) (s4a _ _ hd4) (s4a _ _ hk2)
      refine ⟨_, rfl, _, rfl, _, rfl, F, sl, rw8, b, _, k, O, s4a _ _ (s4 _ _ (s3 _ _ hsz2)), (hrw8.same s9).same s10, ok, s4a _ _ hk2, rfl, fun H11 s11 => ?_⟩
      have s4b := s4a.trans s11
      refine ⟨_, rfl, _, rfl, d, .str (txt (Pk k)), rfl, ?_, rfl, _, rfl, iteNS (by rw [e]) ?_⟩
      · rw [← dicOf_get Pk hmem]
        exact DGet.t (k := kk k) (s4b _ _ hd4) (s4b _ _ hk2)
      exact ⟨_, rfl, s9.trans (s10.trans s11)⟩
    rintro σ H9 ⟨v6b, rfl, s9⟩
    have s49 := s48.trans s9
    have s79 := s8.trans s9
    have hS9 : SqL K H9 a (ns.map V.int) := ((s4.trans s49)).seq hS3
    have hsz9 := s49 _ _ (s4 _ _ (s3 _ _ hsz2))
    -- the other picture
    refine ⟨_, rfl, a, ns, 3, hS9, rfl, fun z3 => ⟨_, rfl, z3, sl, F, O, hsz9, rfl, fun H12 vh R2 s12 hvh hR2 => ?_⟩⟩
    have hsz12 := s12 _ _ hsz9
    refine ⟨_, rfl, sl, _, 0, _, rfl, rfl, hsz12, rfl, _, rfl, sl, _, 1, _, rfl, rfl, hsz12, rfl, _, rfl, sl, _, 2, _, rfl, rfl, hsz12, rfl, _, rfl, sl, _, 3, _, rfl, rfl, hsz12, rfl, _, rfl, fun y dy hy hdy ney => ?_⟩
    have ny : upd H12 dy (.own y) y = none := by rw [upd_ne ney.symm]; exact hy
    have sy : Same H12 (upd (upd H12 dy (.own y)) y (.ins (CP K) dy [])) := (Same.new hdy).trans (Same.new ny)
    refine ⟨F, y, dy, vh, R2, O, rfl, upd_same, hvh.same sy, hR2, fun H13 q13 hk13 hp13 hr13 => ⟨rfl, ?_⟩⟩
    have s13 : Same H12 H13 := fun b o e => by
      have nb : b ≠ y := fun z => by rw [z, hy] at e; cases e
      exact hk13 b o nb (sy _ _ e)
    have hoth13 : PicA K H13 y F R2 := ⟨dy, q13, hp13, hr13⟩
    have s9d := s12.trans s13
    have s4d := s49.trans s9d
    have hf13 := (hf7.same s79).same s9d
    have hpd13 : H13 p = some (.dT (dicOf Pk F.keys.reverse)) := s9d _ _ (s79 _ _ (s7 _ _ hp6))
    have hk13' := hk4.same s4d
    obtain ⟨bs, hl13, hbs13⟩ := id hk13'
    have elen2 : (bs.map V.ref).length = F.keys.length := by rw [List.length_map]; exact Paired.length hbs13
    have nlp : l ≠ p := ne_of hl13 hpd13 (by intro z; cases z)
    refine ⟨_, rfl, l, rfl, ⟨_, SqL.of hl13⟩, ?_⟩
    refine for_list (K := K) (a := l) (xs := bs.map V.ref) (fun i σ H' => ∃ v6 kvs, σ = [some (.ref a), some (.ref sl), some (.ref x), some (.ref l), some (.ref d), some (.ref p), v6, some (.ref pc), some (.ref rw8), some (.ref vh), some (.ref y), none] ∧ SD p H13 H' ∧
      H' p = some (.dT kvs) ∧ kvs.length ≤ F.keys.length + i ∧ ∀ k ∈ F.keys.take i, valV kvs (kk k) = some (.str (txt (bitsB F R2 k)))) ⟨_, _, rfl, SD.refl _ _, hpd13, by unfold dicOf; rw [List.length_map, List.length_reverse]; exact Nat.le_refl _, fun k h => absurd h List.not_mem_nil⟩ (fun i σ H' _ ⟨_, _, _, s, _⟩ => SqL.of (s _ _ nlp hl13)) ?_ ?_
    · rintro i u σ H14 hu14 ⟨v6, kvs, rfl, sd, hpk, hkl, hkv⟩
      obtain ⟨b, hb, rfl⟩ := refs_get hu14
      obtain ⟨k, hk1, hk2⟩ := paired_get hbs13 hb
      have hmem : k ∈ F.keys := List.mem_iff_getElem?.mpr ⟨_, hk1⟩
      have hi : i < F.keys.length := (List.getElem?_eq_some_iff.mp hk1).1
      have ok : F.keyOk k := mem_keys.mp hmem
      have nb : b ≠ p := ne_of hk2 hpd13 (by intro z; cases z)
      have hk14 := sd _ _ nb hk2
      refine ⟨_, rfl, _, rfl, _, rfl, F, x, y, b, _, k, O, hf13.sd sd hpd13, hoth13.sd sd hpd13, ok, hk14, rfl, fun H15 s15 => ?_⟩
      refine ⟨_, rfl, _, rfl, p, _, rfl, DPut.t (k := kk k) (s15 _ _ hpk) (s15 _ _ hk14) (small_of (m := 20000) (by omega)), _, putK kvs (kk k) (.str (txt (bitsB F R2 k))), rfl, SD.put (sd.add s15), upd_same, ?_, fun k' hk' => ?_⟩
      · have := length_putK kvs (kk k) (V.str (txt (bitsB F R2 k)))
        omega
      · rw [valV_put]
        by_cases e : kk k' = kk k
        · rw [if_pos e, kk_inj e]
        · rw [if_neg e]
          rw [← take_snoc hk1] at hk'
          exact hkv k' ((List.mem_append.mp hk').resolve_right fun z => e (by rw [List.mem_singleton.mp z]))
    rintro σ H14 ⟨v6c, kvs, rfl, sd, hpk, _, hkv⟩
    rw [elen2, List.take_length] at hkv
    -- back
    refine ⟨_, rfl, _, rfl, F, x, p, bitsB F R2, O, hf13.sd sd hpd13, ⟨kvs, hpk, fun k ok => hkv k (mem_keys.mpr ok)⟩, fun k _ => bitsB_len F R2 k, rfl, fun H15 bk s15 hbk => ?_⟩
    have er : rowsOf F (picB F (bitsB F R2)) = rowsOf F R2 := rows_ext fun ch px hc hp => pic_bits O (fun _ _ => rfl) hR2 hc hp
    have hoth15 := (hoth13.sd sd hpd13).same s15
    have hvh15 := ((hvh.same s13).sd sd hpd13).same s15
    have hpic15 := (((hpic7.same s79).same s9d).sd sd hpd13).same s15
    have hrw15 := (((hrw8.same s9).same s9d).sd sd hpd13).same s15
    obtain ⟨dxk, qk, hbk0, hqk⟩ := id hbk
    refine ⟨_, rfl, bk, dxk, _, rfl, hbk0, (fP_noM F qk).2.1, F, bk, _, O, hbk, rfl, fun H16 rr s16 hrr => ?_⟩
    rw [er] at hrr
    refine ⟨_, rfl, 2, by decide, rows_eq hrr (hvh15.same s16), _, rfl, iteT ?_⟩
    refine ⟨_, rfl, bk, dxk, _, rfl, s16 _ _ hbk0, (fP_noM F qk).2.2, _, rfl, F, bk, y, _, _, O, hbk.same s16, hoth15.same s16, er, rfl, fun H17 s17 => ?_⟩
    refine ⟨true, true, rfl, rfl, _, rfl, iteD rfl ?_⟩
    have hpic17 := (hpic15.same s16).same s17
    obtain ⟨dxc', qc', hpc', hqc'⟩ := id hpic17
    refine ⟨_, rfl, pc, dxc', _, rfl, hpc', (fP_noM F qc').2.1, F, pc, _, O, hpic17, rfl, fun H18 r3 s18 hr3 => ?_⟩
    exact ⟨_, rfl, 2, by decide, rows_eq hr3 (((hrw15.same s16).same s17).same s18), q H18⟩
end
end PP
/-! ## 23. The facts of the text -/
namespace PP
open PySem PySem.Spec PyProof.Rows L2
theorem fun_of {K : PySem.W.Frag} {x qual : Str} {st : Stmt} {f : Addr} {fd : FuncData} (F : FunD K x qual (defArgs st) (defBody st) (defScope st) [] [] f fd) : Fun K x qual st f fd := by
  obtain ⟨oc, od, dV, kV, doc, pm, an, cdv, ct, osl, e, lk, hcd, hD, hK⟩ := F.ex
  rcases hD with ⟨_, z⟩ | ⟨z, _⟩
  · subst z
    exact ⟨⟨oc, od, kV, doc, pm, an, cdv, ct, osl, e, lk, hcd⟩, F.kp⟩
  · exact absurd rfl z
theorem txt_of {K : PySem.W.Frag} {h : Heap} {mg : Str → Option Value} (X : K.In h) (G : h.Ns mainGlobals mg) (c : He.SaysD fa fn K) : Txt K mg where
  clF := He.cls_ok (c.fact 45)
  clP := He.cls_ok (c.fact 46)
  nFw := He.noat_ok (c.fact 47)
  nFh := He.noat_ok (c.fact 48)
  nFd := He.noat_ok (c.fact 49)
  nFc := He.noat_ok (c.fact 50)
  nFt := He.noat_ok (c.fact 51)
  nPw := He.noat_ok (c.fact 52)
  nPh := He.noat_ok (c.fact 53)
  nPd := He.noat_ok (c.fact 54)
  nPc := He.noat_ok (c.fact 55)
  nPr := He.noat_ok (c.fact 56)
  iS := He.int_ok X G (c.fact 31)
  iV := He.int_ok X G (c.fact 32)
  iD := He.int_ok X G (c.fact 33)
  iT := He.int_ok X G (c.fact 34)
  len := He.free_ok X G (c.fact 35)
  min := He.free_ok X G (c.fact 36)
  range := He.free_ok X G (c.fact 37)
  divmod := He.free_ok X G (c.fact 38)
  list := He.free_ok X G (c.fact 39)
  reversed := He.free_ok X G (c.fact 40)
  zip := He.free_ok X G (c.fact 41)
  abs := He.free_ok X G (c.fact 42)
  int := He.free_ok X G (c.fact 43)
  sum := He.free_ok X G (c.fact 44)
theorem facts {P : Program} {w : World} {K : PySem.W.Frag} {h : Heap} {mg : Str → Option Value} {f : Addr} (X : K.In h) (G : h.Ns mainGlobals mg) (hfa : mg ("law" : Str) = some (.ref f)) (c : He.SaysD fa fn K) :
    ∃ fd : FuncData, (∀ (s : Shared) (v : Value), BindsTo s fd ⟨[v], []⟩ [("_law_script", v)]) ∧ ∀ base : Heap, K.In base → base.Ns mainGlobals mg → FnOk P w K mg base CX0 20 f fd ["_law_script"] (spLaw K) := by
  have T := txt_of X G c
  obtain ⟨fd_cs, h_cs⟩ := c.def_ 0 (d := d_cs) rfl
  have u_cs : Fun K "check_shape" "check_shape" s_cs (He.ga K "check_shape") fd_cs := fun_of h_cs
  have b_cs : Binds K fd_cs ["width", "height", "depth", "channels"] [] := u_cs.binds fun _ _ _ _ _ _ us hl => match us, hl with | [_, _, _, _], _ => rfl
  obtain ⟨fd_cz, h_cz⟩ := c.def_ 1 (d := d_cz) rfl
  have u_cz : Fun K "check_size" "check_size" s_cz (He.ga K "check_size") fd_cz := fun_of h_cz
  have b_cz : Binds K fd_cz ["width", "height", "channels"] [] := u_cz.binds fun _ _ _ _ _ _ us hl => match us, hl with | [_, _, _], _ => rfl
  obtain ⟨fd_fi, h_fi⟩ := c.def_ 29 (d := d_fi) rfl
  have u_fi : Fun K "__init__" "Frame.__init__" s_fi (He.ma K (He.ga K "Frame") "__init__") fd_fi := fun_of h_fi
  have b_fi : Binds K fd_fi ["self", "width", "height", "depth", "channels", "tile"] [] := u_fi.binds fun _ _ _ _ _ _ us hl => match us, hl with | [_, _, _, _, _, _], _ => rfl
  obtain ⟨fd_fa, h_fa⟩ := c.def_ 30 (d := d_fa) rfl
  have u_fa : Fun K "across" "Frame.across" s_fa (He.ma K (He.ga K "Frame") "across") fd_fa := fun_of h_fa
  have b_fa : Binds K fd_fa ["self"] [] := u_fa.binds fun _ _ _ _ _ _ us hl => match us, hl with | [_], _ => rfl
  obtain ⟨fd_fd, h_fd⟩ := c.def_ 31 (d := d_fd) rfl
  have u_fd : Fun K "down" "Frame.down" s_fd (He.ma K (He.ga K "Frame") "down") fd_fd := fun_of h_fd
  have b_fd : Binds K fd_fd ["self"] [] := u_fd.binds fun _ _ _ _ _ _ us hl => match us, hl with | [_], _ => rfl
  obtain ⟨fd_ft, h_ft⟩ := c.def_ 32 (d := d_ft) rfl
  have u_ft : Fun K "tiles" "Frame.tiles" s_ft (He.ma K (He.ga K "Frame") "tiles") fd_ft := fun_of h_ft
  have b_ft : Binds K fd_ft ["self"] [] := u_ft.binds fun _ _ _ _ _ _ us hl => match us, hl with | [_], _ => rfl
  obtain ⟨fd_fp, h_fp⟩ := c.def_ 33 (d := d_fp) rfl
  have u_fp : Fun K "pixels" "Frame.pixels" s_fp (He.ma K (He.ga K "Frame") "pixels") fd_fp := fun_of h_fp
  have b_fp : Binds K fd_fp ["self"] [] := u_fp.binds fun _ _ _ _ _ _ us hl => match us, hl with | [_], _ => rfl
  obtain ⟨fd_tc, h_tc⟩ := c.def_ 2 (d := d_tc) rfl
  have u_tc : Fun K "tile_corner" "tile_corner" s_tc (He.ga K "tile_corner") fd_tc := fun_of h_tc
  have b_tc : Binds K fd_tc ["frame", "tile"] [] := u_tc.binds fun _ _ _ _ _ _ us hl => match us, hl with | [_, _], _ => rfl
  obtain ⟨fd_tz, h_tz⟩ := c.def_ 3 (d := d_tz) rfl
  have u_tz : Fun K "tile_size" "tile_size" s_tz (He.ga K "tile_size") fd_tz := fun_of h_tz
  have b_tz : Binds K fd_tz ["frame", "tile"] [] := u_tz.binds fun _ _ _ _ _ _ us hl => match us, hl with | [_, _], _ => rfl
  obtain ⟨fd_tp, h_tp⟩ := c.def_ 4 (d := d_tp) rfl
  have u_tp : Fun K "tile_pixels" "tile_pixels" s_tp (He.ga K "tile_pixels") fd_tp := fun_of h_tp
  have b_tp : Binds K fd_tp ["frame", "tile"] [] := u_tp.binds fun _ _ _ _ _ _ us hl => match us, hl with | [_, _], _ => rfl
  obtain ⟨fd_ak, h_ak⟩ := c.def_ 5 (d := d_ak) rfl
  have u_ak : Fun K "all_keys" "all_keys" s_ak (He.ga K "all_keys") fd_ak := fun_of h_ak
  have b_ak : Binds K fd_ak ["frame"] [] := u_ak.binds fun _ _ _ _ _ _ us hl => match us, hl with | [_], _ => rfl
  obtain ⟨fd_ck, h_ck⟩ := c.def_ 6 (d := d_ck) rfl
  have u_ck : Fun K "check_key" "check_key" s_ck (He.ga K "check_key") fd_ck := fun_of h_ck
  have b_ck : Binds K fd_ck ["frame", "key"] [] := u_ck.binds fun _ _ _ _ _ _ us hl => match us, hl with | [_, _], _ => rfl
  obtain ⟨fd_av, h_av⟩ := c.def_ 7 (d := d_av) rfl
  have u_av : Fun K "_are_values" "_are_values" s_av (He.ga K "_are_values") fd_av := fun_of h_av
  have b_av : Binds K fd_av ["pixels", "depth", "channels", "values"] [] := u_av.binds fun _ _ _ _ _ _ us hl => match us, hl with | [_, _, _, _], _ => rfl
  obtain ⟨fd_pi, h_pi⟩ := c.def_ 34 (d := d_pi) rfl
  have u_pi : Fun K "__init__" "Picture.__init__" s_pi (He.ma K (He.ga K "Picture") "__init__") fd_pi := fun_of h_pi
  have b_pi : Binds K fd_pi ["self", "width", "height", "depth", "channels", "values"] [] := u_pi.binds fun _ _ _ _ _ _ us hl => match us, hl with | [_, _, _, _, _, _], _ => rfl
  obtain ⟨fd_pl, h_pl⟩ := c.def_ 35 (d := d_pl) rfl
  have u_pl : Fun K "value" "Picture.value" s_pl (He.ma K (He.ga K "Picture") "value") fd_pl := fun_of h_pl
  have b_pl : Binds K fd_pl ["self", "channel", "pixel"] [] := u_pl.binds fun _ _ _ _ _ _ us hl => match us, hl with | [_, _, _], _ => rfl
  obtain ⟨fd_pr, h_pr⟩ := c.def_ 36 (d := d_pr) rfl
  have u_pr : Fun K "rows" "Picture.rows" s_pr (He.ma K (He.ga K "Picture") "rows") fd_pr := fun_of h_pr
  have b_pr : Binds K fd_pr ["self"] [] := u_pr.binds fun _ _ _ _ _ _ us hl => match us, hl with | [_], _ => rfl
  obtain ⟨fd_pe, h_pe⟩ := c.def_ 37 (d := d_pe) rfl
  have u_pe : Fun K "same" "Picture.same" s_pe (He.ma K (He.ga K "Picture") "same") fd_pe := fun_of h_pe
  have b_pe : Binds K fd_pe ["self", "other"] [] := u_pe.binds fun _ _ _ _ _ _ us hl => match us, hl with | [_, _], _ => rfl
  obtain ⟨fd_ff, h_ff⟩ := c.def_ 8 (d := d_ff) rfl
  have u_ff : Fun K "fits_frame" "fits_frame" s_ff (He.ga K "fits_frame") fd_ff := fun_of h_ff
  have b_ff : Binds K fd_ff ["frame", "picture"] [] := u_ff.binds fun _ _ _ _ _ _ us hl => match us, hl with | [_, _], _ => rfl
  obtain ⟨fd_gb, h_gb⟩ := c.def_ 9 (d := d_gb) rfl
  have u_gb : Fun K "gray_bit" "gray_bit" s_gb (He.ga K "gray_bit") fd_gb := fun_of h_gb
  have b_gb : Binds K fd_gb ["value", "plane"] [] := u_gb.binds fun _ _ _ _ _ _ us hl => match us, hl with | [_, _], _ => rfl
  obtain ⟨fd_vo, h_vo⟩ := c.def_ 10 (d := d_vo) rfl
  have u_vo : Fun K "value_of" "value_of" s_vo (He.ga K "value_of") fd_vo := fun_of h_vo
  have b_vo : Binds K fd_vo ["grays"] [] := u_vo.binds fun _ _ _ _ _ _ us hl => match us, hl with | [_], _ => rfl
  obtain ⟨fd_sb, h_sb⟩ := c.def_ 11 (d := d_sb) rfl
  have u_sb : Fun K "stored_bit" "stored_bit" s_sb (He.ga K "stored_bit") fd_sb := fun_of h_sb
  have b_sb : Binds K fd_sb ["picture", "channel", "pixel", "plane"] [] := u_sb.binds fun _ _ _ _ _ _ us hl => match us, hl with | [_, _, _, _], _ => rfl
  obtain ⟨fd_pb, h_pb⟩ := c.def_ 12 (d := d_pb) rfl
  have u_pb : Fun K "packet_bits" "packet_bits" s_pb (He.ga K "packet_bits") fd_pb := fun_of h_pb
  have b_pb : Binds K fd_pb ["frame", "picture", "key"] [] := u_pb.binds fun _ _ _ _ _ _ us hl => match us, hl with | [_, _, _], _ => rfl
  obtain ⟨fd_st, h_st⟩ := c.def_ 13 (d := d_st) rfl
  have u_st : Fun K "_stored" "_stored" s_st (He.ga K "_stored") fd_st := fun_of h_st
  have b_st : Binds K fd_st ["frame", "packets"] [] := u_st.binds fun _ _ _ _ _ _ us hl => match us, hl with | [_, _], _ => rfl
  obtain ⟨fd_vs, h_vs⟩ := c.def_ 14 (d := d_vs) rfl
  have u_vs : Fun K "_values" "_values" s_vs (He.ga K "_values") fd_vs := fun_of h_vs
  have b_vs : Binds K fd_vs ["frame", "table", "channel"] [] := u_vs.binds fun _ _ _ _ _ _ us hl => match us, hl with | [_, _, _], _ => rfl
  obtain ⟨fd_po, h_po⟩ := c.def_ 15 (d := d_po) rfl
  have u_po : Fun K "picture_of" "picture_of" s_po (He.ga K "picture_of") fd_po := fun_of h_po
  have b_po : Binds K fd_po ["frame", "packets"] [] := u_po.binds fun _ _ _ _ _ _ us hl => match us, hl with | [_, _], _ => rfl
  obtain ⟨fd_lc, h_lc⟩ := c.def_ 16 (d := d_lc) rfl
  have u_lc : Fun K "_law_cell" "_law_cell" s_lc (He.ga K "_law_cell") fd_lc := fun_of h_lc
  have b_lc : Binds K fd_lc ["_law_script", "_law_k"] [] := u_lc.binds fun _ _ _ _ _ _ us hl => match us, hl with | [_, _], _ => rfl
  obtain ⟨fd_lm, h_lm⟩ := c.def_ 17 (d := d_lm) rfl
  have u_lm : Fun K "_law_mixed" "_law_mixed" s_lm (He.ga K "_law_mixed") fd_lm := fun_of h_lm
  have b_lm : Binds K fd_lm ["_law_number", "_law_k", "_law_limit"] [] := u_lm.binds fun _ _ _ _ _ _ us hl => match us, hl with | [_, _, _], _ => rfl
  obtain ⟨fd_ln, h_ln⟩ := c.def_ 18 (d := d_ln) rfl
  have u_ln : Fun K "_law_numbers" "_law_numbers" s_ln (He.ga K "_law_numbers") fd_ln := fun_of h_ln
  have b_ln : Binds K fd_ln ["_law_cell_here", "_law_count", "_law_limit"] [] := u_ln.binds fun _ _ _ _ _ _ us hl => match us, hl with | [_, _, _], _ => rfl
  obtain ⟨fd_lz, h_lz⟩ := c.def_ 19 (d := d_lz) rfl
  have u_lz : Fun K "_law_sizes" "_law_sizes" s_lz (He.ga K "_law_sizes") fd_lz := fun_of h_lz
  have b_lz : Binds K fd_lz ["_law_cell_here", "_law_most"] [] := u_lz.binds fun _ _ _ _ _ _ us hl => match us, hl with | [_, _], _ => rfl
  obtain ⟨fd_lv, h_lv⟩ := c.def_ 20 (d := d_lv) rfl
  have u_lv : Fun K "_law_values" "_law_values" s_lv (He.ga K "_law_values") fd_lv := fun_of h_lv
  have b_lv : Binds K fd_lv ["_law_cell_here", "_law_sizes_here"] [] := u_lv.binds fun _ _ _ _ _ _ us hl => match us, hl with | [_, _], _ => rfl
  obtain ⟨fd_lt, h_lt⟩ := c.def_ 21 (d := d_lt) rfl
  have u_lt : Fun K "_law_tiles" "_law_tiles" s_lt (He.ga K "_law_tiles") fd_lt := fun_of h_lt
  have b_lt : Binds K fd_lt ["_law_sizes_here"] [] := u_lt.binds fun _ _ _ _ _ _ us hl => match us, hl with | [_], _ => rfl
  obtain ⟨fd_lo, h_lo⟩ := c.def_ 22 (d := d_lo) rfl
  have u_lo : Fun K "_law_order" "_law_order" s_lo (He.ga K "_law_order") fd_lo := fun_of h_lo
  have b_lo : Binds K fd_lo ["_law_sizes_here", "_law_tiles_here"] [] := u_lo.binds fun _ _ _ _ _ _ us hl => match us, hl with | [_, _], _ => rfl
  obtain ⟨fd_lg, h_lg⟩ := c.def_ 23 (d := d_lg) rfl
  have u_lg : Fun K "_law_gray" "_law_gray" s_lg (He.ga K "_law_gray") fd_lg := fun_of h_lg
  have b_lg : Binds K fd_lg ["_law_value", "_law_plane"] [] := u_lg.binds fun _ _ _ _ _ _ us hl => match us, hl with | [_, _], _ => rfl
  obtain ⟨fd_ls, h_ls⟩ := c.def_ 24 (d := d_ls) rfl
  have u_ls : Fun K "_law_stored" "_law_stored" s_ls (He.ga K "_law_stored") fd_ls := fun_of h_ls
  have b_ls : Binds K fd_ls ["_law_values_here", "_law_channel", "_law_pixel", "_law_plane"] [] := u_ls.binds fun _ _ _ _ _ _ us hl => match us, hl with | [_, _, _, _], _ => rfl
  obtain ⟨fd_lp, h_lp⟩ := c.def_ 25 (d := d_lp) rfl
  have u_lp : Fun K "_law_pixels" "_law_pixels" s_lp (He.ga K "_law_pixels") fd_lp := fun_of h_lp
  have b_lp : Binds K fd_lp ["_law_sizes_here", "_law_tile"] [] := u_lp.binds fun _ _ _ _ _ _ us hl => match us, hl with | [_, _], _ => rfl
  obtain ⟨fd_lb, h_lb⟩ := c.def_ 26 (d := d_lb) rfl
  have u_lb : Fun K "_law_bits" "_law_bits" s_lb (He.ga K "_law_bits") fd_lb := fun_of h_lb
  have b_lb : Binds K fd_lb ["_law_sizes_here", "_law_values_here", "_law_key"] [] := u_lb.binds fun _ _ _ _ _ _ us hl => match us, hl with | [_, _, _], _ => rfl
  obtain ⟨fd_ld, h_ld⟩ := c.def_ 27 (d := d_ld) rfl
  have u_ld : Fun K "_law_drawn" "_law_drawn" s_ld (He.ga K "_law_drawn") fd_ld := fun_of h_ld
  have b_ld : Binds K fd_ld ["_law_frame", "_law_keys", "_law_cell_here"] [] := u_ld.binds fun _ _ _ _ _ _ us hl => match us, hl with | [_, _, _], _ => rfl
  obtain ⟨fd_lw, h_lw⟩ := c.def_ 28 (d := d_lw) rfl
  have u_lw : Fun K "law" "law" s_lw (He.ga K "law") fd_lw := fun_of h_lw
  have b_lw : Binds K fd_lw ["_law_script"] [] := u_lw.binds fun _ _ _ _ _ _ us hl => match us, hl with | [_], _ => rfl
  have e : f = He.ga K "law" := by
    have g := He.glo_ok X G (c.fact 28)
    rw [hfa] at g
    injection g with g
    injection g with g
  subst e
  refine ⟨fd_lw, fun s v => FunD.bindsA (ps := ["_law_script"]) h_lw (fun _ _ _ _ _ _ us hl => match us, hl with | [_], _ => rfl) s [v] rfl, fun base _ _ => ?_⟩
  have D_cs : Dfn P w K mg base 1 "check_shape" ["width", "height", "depth", "channels"] spCS := ⟨_, fd_cs, ok_cs u_cs T, b_cs, u_cs.kp, He.glo_ok X G (c.fact 0)⟩
  have D_cz : Dfn P w K mg base 1 "check_size" ["width", "height", "channels"] spCZ := ⟨_, fd_cz, ok_cz u_cz T, b_cz, u_cz.kp, He.glo_ok X G (c.fact 1)⟩
  have D_fi : Mkr P w K mg base 2 (CF K) "Frame" ["self", "width", "height", "depth", "channels", "tile"] (spFI K) := ⟨_, fd_fi, ok_fi u_fi T D_cs D_cz, b_fi, He.mkr_ok (c.fact 57), He.glo_ok X G (c.fact 29)⟩
  have D_fa : Mth P w K mg base 1 (CF K) "across" ["self"] (spFr K Fr.ac) := ⟨_, fd_fa, ok_fa u_fa T, b_fa, He.meth_ok (c.fact 59)⟩
  have D_fd : Mth P w K mg base 1 (CF K) "down" ["self"] (spFr K Fr.dn) := ⟨_, fd_fd, ok_fd u_fd T, b_fd, He.meth_ok (c.fact 60)⟩
  have D_ft : Mth P w K mg base 2 (CF K) "tiles" ["self"] (spFr K Fr.nt) := ⟨_, fd_ft, ok_ft u_ft T D_fa D_fd, b_ft, He.meth_ok (c.fact 61)⟩
  have D_fp : Mth P w K mg base 1 (CF K) "pixels" ["self"] (spFr K Fr.np) := ⟨_, fd_fp, ok_fp u_fp T, b_fp, He.meth_ok (c.fact 62)⟩
  have D_tc : Dfn P w K mg base 2 "tile_corner" ["frame", "tile"] (spCorner K) := ⟨_, fd_tc, ok_tc u_tc T D_fa, b_tc, u_tc.kp, He.glo_ok X G (c.fact 2)⟩
  have D_tz : Dfn P w K mg base 3 "tile_size" ["frame", "tile"] (spSize K) := ⟨_, fd_tz, ok_tz u_tz T D_tc, b_tz, u_tz.kp, He.glo_ok X G (c.fact 3)⟩
  have D_tp : Dfn P w K mg base 4 "tile_pixels" ["frame", "tile"] (spPixels K) := ⟨_, fd_tp, ok_tp u_tp T D_tc D_tz, b_tp, u_tp.kp, He.glo_ok X G (c.fact 4)⟩
  have D_ak : Dfn P w K mg base 3 "all_keys" ["frame"] (spAllKeys K) := ⟨_, fd_ak, ok_ak u_ak T D_ft, b_ak, u_ak.kp, He.glo_ok X G (c.fact 5)⟩
  have D_ck : Dfn P w K mg base 3 "check_key" ["frame", "key"] (spCheckKey K) := ⟨_, fd_ck, ok_ck u_ck T D_ft, b_ck, u_ck.kp, He.glo_ok X G (c.fact 6)⟩
  have D_av : Dfn P w K mg base 1 "_are_values" ["pixels", "depth", "channels", "values"] spAreValues := ⟨_, fd_av, ok_av u_av T, b_av, u_av.kp, He.glo_ok X G (c.fact 7)⟩
  have D_pi : Mkr P w K mg base 2 (CP K) "Picture" ["self", "width", "height", "depth", "channels", "values"] (spPI K) := ⟨_, fd_pi, ok_pi u_pi T D_cs D_cz D_av, b_pi, He.mkr_ok (c.fact 58), He.glo_ok X G (c.fact 30)⟩
  have D_pl : Mth P w K mg base 1 (CP K) "value" ["self", "channel", "pixel"] (spValue K) := ⟨_, fd_pl, ok_pl u_pl T, b_pl, He.meth_ok (c.fact 63)⟩
  have D_pr : Mth P w K mg base 1 (CP K) "rows" ["self"] (spRows K) := ⟨_, fd_pr, ok_pr u_pr T, b_pr, He.meth_ok (c.fact 64)⟩
  have D_pe : Mth P w K mg base 2 (CP K) "same" ["self", "other"] (spSame K) := ⟨_, fd_pe, ok_pe u_pe T D_pr, b_pe, He.meth_ok (c.fact 65)⟩
  have D_ff : Dfn P w K mg base 1 "fits_frame" ["frame", "picture"] (spFits K) := ⟨_, fd_ff, ok_ff u_ff T, b_ff, u_ff.kp, He.glo_ok X G (c.fact 8)⟩
  have D_gb : Dfn P w K mg base 1 "gray_bit" ["value", "plane"] spGray := ⟨_, fd_gb, ok_gb u_gb , b_gb, u_gb.kp, He.glo_ok X G (c.fact 9)⟩
  have D_vo : Dfn P w K mg base 1 "value_of" ["grays"] spValueOf := ⟨_, fd_vo, ok_vo u_vo , b_vo, u_vo.kp, He.glo_ok X G (c.fact 10)⟩
  have D_sb : Dfn P w K mg base 2 "stored_bit" ["picture", "channel", "pixel", "plane"] (spStoredBit K) := ⟨_, fd_sb, ok_sb u_sb T D_gb D_pl, b_sb, u_sb.kp, He.glo_ok X G (c.fact 11)⟩
  have D_pb : Dfn P w K mg base 5 "packet_bits" ["frame", "picture", "key"] (spPacketBits K) := ⟨_, fd_pb, ok_pb u_pb T D_ff D_ck D_sb D_tp, b_pb, u_pb.kp, He.glo_ok X G (c.fact 12)⟩
  have D_st : Dfn P w K mg base 5 "_stored" ["frame", "packets"] (spStored K) := ⟨_, fd_st, ok_st u_st T D_fp D_ak D_tp, b_st, u_st.kp, He.glo_ok X G (c.fact 13)⟩
  have D_vs : Dfn P w K mg base 2 "_values" ["frame", "table", "channel"] (spValues K) := ⟨_, fd_vs, ok_vs u_vs T D_fp D_vo, b_vs, u_vs.kp, He.glo_ok X G (c.fact 14)⟩
  have D_po : Dfn P w K mg base 6 "picture_of" ["frame", "packets"] (spPictureOf K) := ⟨_, fd_po, ok_po u_po T D_st D_vs D_pi, b_po, u_po.kp, He.glo_ok X G (c.fact 15)⟩
  have D_lc : Dfn P w K mg base 1 "_law_cell" ["_law_script", "_law_k"] (spCell K) := ⟨_, fd_lc, ok_lc u_lc T, b_lc, u_lc.kp, He.glo_ok X G (c.fact 16)⟩
  have D_lm : Dfn P w K mg base 1 "_law_mixed" ["_law_number", "_law_k", "_law_limit"] spMixed := ⟨_, fd_lm, ok_lm u_lm T, b_lm, u_lm.kp, He.glo_ok X G (c.fact 17)⟩
  have D_ln : Dfn P w K mg base 2 "_law_numbers" ["_law_cell_here", "_law_count", "_law_limit"] spNumbers := ⟨_, fd_ln, ok_ln u_ln T D_lm, b_ln, u_ln.kp, He.glo_ok X G (c.fact 18)⟩
  have D_lz : Dfn P w K mg base 3 "_law_sizes" ["_law_cell_here", "_law_most"] spSizes := ⟨_, fd_lz, ok_lz u_lz T D_ln, b_lz, u_lz.kp, He.glo_ok X G (c.fact 19)⟩
  have D_lv : Dfn P w K mg base 3 "_law_values" ["_law_cell_here", "_law_sizes_here"] spLValues := ⟨_, fd_lv, ok_lv u_lv T D_ln, b_lv, u_lv.kp, He.glo_ok X G (c.fact 20)⟩
  have D_lt : Dfn P w K mg base 1 "_law_tiles" ["_law_sizes_here"] spLTiles := ⟨_, fd_lt, ok_lt u_lt , b_lt, u_lt.kp, He.glo_ok X G (c.fact 21)⟩
  have D_lo : Dfn P w K mg base 1 "_law_order" ["_law_sizes_here", "_law_tiles_here"] spLOrder := ⟨_, fd_lo, ok_lo u_lo T, b_lo, u_lo.kp, He.glo_ok X G (c.fact 22)⟩
  have D_lg : Dfn P w K mg base 1 "_law_gray" ["_law_value", "_law_plane"] spGray := ⟨_, fd_lg, ok_lg u_lg T, b_lg, u_lg.kp, He.glo_ok X G (c.fact 23)⟩
  have D_ls : Dfn P w K mg base 2 "_law_stored" ["_law_values_here", "_law_channel", "_law_pixel", "_law_plane"] spLStored := ⟨_, fd_ls, ok_ls u_ls T D_lg, b_ls, u_ls.kp, He.glo_ok X G (c.fact 24)⟩
  have D_lp : Dfn P w K mg base 1 "_law_pixels" ["_law_sizes_here", "_law_tile"] spLPixels := ⟨_, fd_lp, ok_lp u_lp T, b_lp, u_lp.kp, He.glo_ok X G (c.fact 25)⟩
  have D_lb : Dfn P w K mg base 3 "_law_bits" ["_law_sizes_here", "_law_values_here", "_law_key"] spLBits := ⟨_, fd_lb, ok_lb u_lb T D_lp D_ls, b_lb, u_lb.kp, He.glo_ok X G (c.fact 26)⟩
  have D_ld : Dfn P w K mg base 5 "_law_drawn" ["_law_frame", "_law_keys", "_law_cell_here"] (spDrawn K) := ⟨_, fd_ld, ok_ld u_ld T D_tp D_ln, b_ld, u_ld.kp, He.glo_ok X G (c.fact 27)⟩
  exact (ok_lw u_lw T D_lc D_lz D_fi D_lt D_lo D_ld D_po D_ff D_pr D_pb D_lb D_lv D_pi D_pe).mono (by decide)
end PP
namespace PP
open PySem PySem.Spec PyProof.Rows L2
abbrev RR : PySem.W.OpenRow := PySem.W.OpenLaw.row PySem.Challenge.rw_packetpicture_k14_whole_bits_belong_to_o
abbrev hk : PySem.W.Hook := He.hookD 4 fa fn
def ob (s : PySem.W.SharedT) : He.AlD := He.obsDG 4 fa fn (HandSHeadRun.getT s)
theorem ob_eq (s : PySem.W.SharedT) : ob s = hk.obs s.abs := He.obsDG_eq (HandSHeadRun.getT_eq s)
def loose1 : List PySem.Str := ["_wall", "PictureError", "OutOfRange", "OtherKind", "SIDE_MOST", "VALUES_MOST", "DEPTH_MOST", "TILE_MOST", "check_shape", "check_size", "Frame", "tile_corner", "tile_size", "tile_pixels", "all_keys", "check_key", "_are_values", "Picture", "fits_frame"]
def loose2 : List PySem.Str := ["gray_bit", "value_of", "stored_bit", "packet_bits", "_stored", "_values", "picture_of", "_law_cell", "_law_mixed", "_law_numbers", "_law_sizes", "_law_values", "_law_tiles", "_law_order", "_law_gray", "_law_stored", "_law_pixels", "_law_bits", "_law_drawn"]
def loose : List PySem.Str := loose1 ++ loose2
theorem run (w : World) : HandSHeadRun.RunEq RR (PySem.W.view RR.prog [43]) hk ob 4000 loose w := by
  intro os
  kernel_rfl
end PP
open PySem PySem.W PySem.Calls PyProof.Rows
theorem PySem.Challenge.cw_packetpicture_k14_whole_bits_belong_to_o_holds : PySem.Challenge.rw_packetpicture_k14_whole_bits_belong_to_o.Holds := by
  w_on; o_law
  refine HandSHeadRun.head_any (r := OpenLaw.row PySem.Challenge.rw_packetpicture_k14_whole_bits_belong_to_o) (q := view (OpenLaw.row PySem.Challenge.rw_packetpicture_k14_whole_bits_belong_to_o).prog [43]) (H := PP.hk) (ob := PP.ob) (M := 4000) (loose := PP.loose) (d := HandSHeadRun.topDef (OpenLaw.row PySem.Challenge.rw_packetpicture_k14_whole_bits_belong_to_o).prog 43) (kwd := []) PP.ob_eq
    (by kernel_rfl) (fun s => by kernel_rfl) PP.run (by kernel_rfl) (by kernel_rfl) (by kernel_rfl) (by rfl) (by first | assumption | decide +kernel) (by decide +kernel) ⟨rfl, rfl, rfl, rfl, rfl, by decide +kernel⟩ ?hw ?hc
  case hw => w_witness2
  case hc =>
    refine L2.walk_ofE (l := PySem.Challenge.rw_packetpicture_k14_whole_bits_belong_to_o) (n := 63) (k := 20) (x := "_law_script") (CX := L2.CX0) rfl (by decide) (by kernel_rfl) ⟨rfl, by decide, by decide⟩ ?F (fun _ _ _ _ z => z)
    intro w mg fa h Y G hmg0
    obtain ⟨K, KX, c⟩ := Y
    have hmg : mg ("law" : PySem.Str) = some (.ref fa) := by
      have e : (HandSHeadRun.topDef (OpenLaw.row PySem.Challenge.rw_packetpicture_k14_whole_bits_belong_to_o).prog 43).name = ("law" : PySem.Str) := by kernel_rfl
      rw [← e]
      exact hmg0
    obtain ⟨fd, hb, hF⟩ := PP.facts (P := (PySem.Challenge.rw_packetpicture_k14_whole_bits_belong_to_o).prog) (w := w) KX G hmg c
    exact ⟨K, fd, PP.spLaw K, KX, hb, fun H a ns hl _ hS => ⟨a, ns, rfl, hS, hl, fun _ => rfl⟩, hF⟩
