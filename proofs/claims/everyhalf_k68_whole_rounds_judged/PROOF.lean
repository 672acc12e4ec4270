import PyProof.Rows.All
import Wide.All
import OpenK.AllK
import Wide.FinOn
import HandS.ForMost
import HandS.Walk
import KE.GoesEnum
import KE.KRevSl
import PySem.Challenge.RW_everyhalf_k68_whole_rounds_judged
import HandS.Codes
import HandS.IsInst
import HandS.RevRange
import KE.KSuper
import HandS.ClsMeth
import HandS.Star
import HandS.Words
import KE.KTypeName
import HandS.OwnEq
import HandS.Style
import KE.KDictList
import HandS.Conv
import HandS.Sort
import HandS.DictComp
import PyProof.StrLawsRepr
import HandS.WordsDict
import PyProof.FitsInt
set_option Elab.async false
set_option linter.all false
set_option maxRecDepth 100000
set_option maxHeartbeats 4000000
/-! The mirror: what the defs reckon, over lists of code points (48 is the sign 0, 49 the sign 1). -/
namespace Mi

abbrev W := List Nat

/-! ### the law's own helpers -/
/-- the first place at which the depth is 0, counted from d -/
def closeAt : Int → W → Option Nat
  | _, [] => none
  | d, c :: r => if d + (if c = 49 then 1 else -1) = 0 then some 0 else (closeAt (d + (if c = 49 then 1 else -1)) r).map (· + 1)
def turned (w : W) : W := match closeAt 0 w with
  | some a => ((w.take a).drop 1 ++ [49] ++ w.drop (a + 1)) ++ [48]
  | none => w
def treeGo : Nat → W → List W → List W
  | 0, _, acc => acc
  | n + 1, w, acc => if turned (acc.getLastD []) = w then acc else treeGo n w (acc ++ [turned (acc.getLastD [])])
def tree (w : W) : List W := treeGo w.length w [w]
def isRight (w : W) : Bool := match closeAt 0 w with
  | some a => decide (w.take 3 = [49, 49, 48]) && decide (a + 1 ≤ w.length / 2 + 1)
  | none => false
def stateM (w : W) (sh : Int) (sg : W) : W := (List.range (w ++ sg).length).map fun (l : Nat) => (w ++ sg).getD (((l : Int) - sh) % ((w ++ sg).length : Nat)).toNat 0
def wordsRow (p : Nat) (row : W) : List W := (if 2 * row.count 49 > row.length then [row ++ [48]] else []) ++ (if row.count 49 < p then [row ++ [49]] else [])
def wordsGo : Nat → Nat → List W → List W
  | 0, _, found => found
  | n + 1, p, found => wordsGo n p (found.flatMap (wordsRow p))
def allWords (p : Nat) : List W := wordsGo (2 * p) p [[]]
def switched (s : W) (l : Nat) : W := s.take l ++ (if s.getD l 0 = 49 then [48] else [49]) ++ s.drop (l + 1)
/-- the least of two texts as Python's min takes it: the first one unless the second is less -/
def min2 (a b : W) : W := if b < a then b else a
def minL : List W → W
  | [] => []
  | x :: r => r.foldl min2 x

/-! dicts with text keys, in order of insertion -/
def put {α : Type} (kvs : List (W × α)) (k : W) (v : α) : List (W × α) :=
  if kvs.any (fun p => decide (p.1 = k)) then kvs.map fun p => if p.1 = k then (p.1, v) else p else kvs ++ [(k, v)]
def get {α : Type} (kvs : List (W × α)) (k : W) : Option α := (kvs.find? fun p => decide (p.1 = k)).map (·.2)

structure Bes where
  chosen : List (W × W)
  beside : List (W × List W)
def shiftStep (w : W) (b : List (W × List W)) (sh : Nat) : List (W × List W) :=
  put b (stateM w sh [48]) [stateM (turned w) ((sh : Int) + 1) [49], stateM w sh [49]]
def chosenStep (c : List (W × W)) (w : W) : List (W × W) :=
  if isRight w then put c (minL (tree w)) (min2 ((get c (minL (tree w))).getD w) w) else c
def wordStep (p : Nat) (s : List (W × W) × List (W × List W)) (w : W) : List (W × W) × List (W × List W) :=
  (chosenStep s.1 w, (List.range (2 * p + 1)).foldl (shiftStep w) s.2)
def sewStep (b : List (W × List W)) (w : W) : Option (List (W × List W)) :=
  let near := [49, 48, 49] ++ w.drop 3
  let once := turned w
  let far := turned (turned once)
  let itsLow := stateM near 0 [48]
  let foot := stateM far 3 [48]
  let low := stateM w 0 [48]
  (get b low).bind fun l1 => (l1[1]?).bind fun x1 =>
  let b1 := put b low [stateM (turned near) 1 [49], x1]
  (get b1 itsLow).bind fun l2 => (l2[1]?).bind fun x2 =>
  let b2 := put b1 itsLow [stateM far 3 [49], x2]
  (get b2 foot).bind fun l3 => (l3[0]?).bind fun x3 =>
  some (put b2 foot [x3, stateM once 1 [49]])
def aboveRow (a : List (W × List W)) (low : W) (ups : List W) : List (W × List W) :=
  ups.foldl (fun a up => put a up ((get a up).getD [] ++ [low])) a
/-- for low in list(beside): for up in beside[low] -/
def aboveAll (b : List (W × List W)) : List (W × List W) := b.foldl (fun a kv => aboveRow a kv.1 kv.2) []
def walkGo (b a : List (W × List W)) : Nat → List W → W → Option (List W)
  | 0, found, _ => some found
  | n + 1, found, here =>
    let found := found ++ [here]
    (match get a here with | some l => some l | none => get b here).bind fun both => (both[0]?).bind fun x =>
    (found[found.length - 2]?).bind fun y => if x ≠ y then walkGo b a n found x else (both[1]?).bind fun z => walkGo b a n found z
def roundM (p : Nat) : Option (List W) :=
  let cb := (allWords p).foldl (wordStep p) ([], [])
  (cb.1.foldl (fun (o : Option (List (W × List W))) kv => o.bind fun b => sewStep b kv.2) (some cb.2)).bind fun b =>
  let a := aboveAll b
  let first := List.replicate p 49 ++ List.replicate (p + 1) 48
  (get b first).bind fun l => (l[0]?).bind fun here => walkGo b a (2 * b.length - 1) [first] here

def roundOk (p n : Nat) : Bool := match roundM p with
  | some l => decide (l.length = n) && l.all fun s => decide (s.length = 2 * p + 1) && s.all fun c => decide (c = 48) || decide (c = 49)
  | none => false
theorem round1 : roundOk 1 6 = true := by decide +kernel
theorem round2 : roundOk 2 20 = true := by decide +kernel
theorem round3 : roundOk 3 70 = true := by decide +kernel
theorem round4 : roundOk 4 252 = true := by decide +kernel
end Mi
/-! The mirror of the program: states, walks. -/
namespace Mi
def isSigns (l : W) : Bool := l.all fun c => decide (c = 48) || decide (c = 49)
def isSt (l : W) : Bool := isSigns l && decide (l.length % 2 = 1) && decide (3 ≤ l.length) && decide (l.length ≤ 401) && (decide (l.count 49 = l.length / 2) || decide (l.count 49 = l.length / 2 + 1))
end Mi
namespace Mi
/-- how many lamps of the first differ in the second -/
def unlike (a b : W) : Nat := ((List.range a.length).filter fun i => !decide (a.getD i 0 = b.getD i 0)).length
def leastM (fr : W) (n : Nat) : W := fr ++ List.replicate (n - fr.length - (n / 2 - fr.count 49)) 48 ++ List.replicate (n / 2 - fr.count 49) 49
def greaterGo (s : W) : Nat → Option W
  | 0 => none
  | k + 1 => if s.getD k 0 = 48 ∧ (s.take k).count 49 + 1 ≤ s.length / 2 + 1 then some (leastM (s.take k ++ [49]) s.length) else greaterGo s k
def greaterM (s : W) : Option W := greaterGo s s.length
end Mi
/-! enumerate of a text, of a tuple; of a list or a tuple. -/
namespace Ev
open PySem PySem.Spec PyProof.Rows L2

/-- the new pair of the turn's number and what the source gives -/
def EPair (Y : Nat → V → Prop) : Nat → Hp → V → Hp → Prop := fun i H v H' => ∃ T y, v = .ref T ∧ H T = none ∧ H' = upd H T (.tup [.int (i : Nat), y]) ∧ Y i y
/-- an enumerate over a source that n items may be drawn of, while G stands -/
def Itn (n : Nat) (G : Hp → Prop) (Y : Nat → V → Prop) : It := ⟨fun i H => i < n ∧ G H, EPair Y, fun i H => i = n ∧ G H⟩

/-- a source: an iterator's cell, what is known of it in any running body -/
def Drawn' (P : Program) (w : World) (K : PySem.W.Frag) (it : Addr) (n : Nat) (G : Hp → Prop) (Y : Nat → V → Prop) (St : Nat → Heap → Prop) : Prop :=
  ∀ (X : Cx), X.prog = P → X.w = w → X.K = K → X.calm = true → ∀ (pins : List (Addr × Obj)) (s : Shared) (σ : L2.St) (H : Hp), Inv X pins σ H s → H it = none → G H →
    ∃ (fp : List Addr) (P' : Nat → Value → Prop) (St' : Nat → Heap → Prop), Draws P w X.A.in1 it fp n P' St' ∧ it ∈ fp ∧ (∀ b, b ≠ it → H b = none → b ∉ fp) ∧ (∀ i, St i s.heap → St' i s.heap) ∧ (∀ i h, St' i h → St i h) ∧
      ∀ i v, P' i v → ∃ y, RelV y v ∧ Y i y

theorem turn_enumS {P : Program} {w : World} {K : PySem.W.Frag} {elts : List Expr} {kk : Nat} {tpos : Pos} {e it : Addr} {n : Nat} {G : Hp → Prop} {Y : Nat → V → Prop} {St : Nat → Heap → Prop} (S : Drawn' P w K it n G Y St)
    (hob : ∀ i h, St i h → ∃ o, h.get? it = some o ∧ ∀ v, o.data ≠ .cell v) (hfr : ∀ i h h', St i h → (∀ o, h.get? it = some o → h'.get? it = some o) → St i h') :
    Turn P w K (.Tuple elts kk tpos) (Itn n G Y) [e, it] e (fun i h => (∃ old, IsEnum h e it ((i : Nat) : Int) old) ∧ St i h ∧ e ≠ it) where
  mem := by simp
  obj := fun i h st b hb => by
    obtain ⟨⟨old, he⟩, hs, _⟩ := st
    have e' : b = e ∨ b = it := by simpa using hb
    rcases e' with z | z
    · rw [z]; exact ⟨_, he, fun v q => nomatch q⟩
    · rw [z]; exact hob i h hs
  keep := fun i h h' st k => let ⟨⟨old, he⟩, hs, hne⟩ := st; ⟨⟨old, k e (by simp) _ he⟩, hfr i h h' hs fun o q => k it (by simp) o q, hne⟩
  item := by
    intro X hP hw hK hc i pins s σ H E I hf st hg
    obtain ⟨⟨old, he⟩, hs, hne⟩ := st
    obtain ⟨hi, hG⟩ := hg
    have f1 := hf it (by simp)
    have f2 := hf e (by simp)
    obtain ⟨fp, P', St', D, hm, hn, hto, hback, hy⟩ := S X hP hw hK hc pins s σ H I f1.1 hG
    subst hP hw hK
    have W := WalksT.enumerateD D e hne (hn e hne f2.1) hm
    refine W.item i s _ E hi ⟨⟨old, he⟩, hto i hs⟩ fun T vals h' tk hv hT hI hmid hk => ⟨_, rfl, ?_⟩
    refine W.go elts kk tpos i T { s with heap := h', toks := tk } _ E hmid fun h'' st'' hk'' => ?_
    obtain ⟨t', v, hp, rfl⟩ := hv
    obtain ⟨y, ry, hY⟩ := hy i v hp
    obtain ⟨⟨old', he'⟩, hs'⟩ := st''
    have hTn := W.apart i T h' hmid
    obtain ⟨oT, hoT, hcT, nT, hdT⟩ := hI
    have hT2 : h''.get? T = some oT := hk'' T oT hTn hoT
    have new : ObjOk X.prog X.w (upd H T (.tup [.int (i : Nat), y])) h'' T (.tup [.int (i : Nat), y]) :=
      ⟨by show 2 ≤ sizeLine; decide, [.int i t', v], .cons ⟨_, rfl⟩ (.cons ry .nil), ⟨_, hT2, hcT, nT, hdT⟩⟩
    have I1 : Inv X pins σ (upd H T (.tup [.int (i : Nat), y])) { s with heap := h'', toks := tk } :=
      I.turnedNew (ch := [e, it]) (fun b ob hb q => hk'' b ob hb (hk b ob hb q)) hf hT new
    refine ⟨.ref T, _, I1, rfl, ⟨T, y, rfl, I.hok.fresh hT, rfl, hY⟩, ⟨⟨old', ?_⟩, hback _ _ hs', hne⟩, fun b hb => ?_⟩
    · exact he'
    · have hb' : b < s.heap.objs.size := by
        have e' : b = e ∨ b = it := by simpa using hb
        rcases e' with z | z
        · rw [z]; exact Heap.lt_size he
        · rw [z]; obtain ⟨o, ho, _⟩ := hob i _ hs; exact Heap.lt_size ho
      rw [upd_ne (Nat.ne_of_lt (Nat.lt_of_lt_of_le hb' hT))]
      exact (hf b hb).1
  done := by
    intro X hP hw hK hc i pins s σ H E I hf st hg
    obtain ⟨⟨old, he⟩, hs, hne⟩ := st
    obtain ⟨hi, hG⟩ := hg
    have f1 := hf it (by simp)
    have f2 := hf e (by simp)
    obtain ⟨fp, P', St', D, hm, hn, hto, hback, hy⟩ := S X hP hw hK hc pins s σ H I f1.1 hG
    subst hP hw hK
    subst hi
    have W := WalksT.enumerateD D e hne (hn e hne f2.1) hm
    exact W.done s _ E ⟨⟨old, he⟩, hto _ hs⟩ fun h' tk hk => ⟨rfl, I.turnedL (t' := tk) (ch := [e, it]) (fun b o hb q => hk b o hb q) hf⟩
  self := fun A i s Q E st h => let ⟨⟨_, he⟩, _⟩ := st; wpAny_pyIter_enum he h

theorem walk_enumS {n : Nat} {G : Hp → Prop} {Y : Nat → V → Prop} : Walk (Itn n G Y) n G (EPair Y) :=
  ⟨fun _ _ hi g => ⟨hi, g⟩, fun _ g => ⟨rfl, g⟩, fun _ _ _ _ _ _ y => y⟩

/-! ### a text -/
def YSign (x : Str) : Nat → V → Prop := fun i y => ∃ c, x.cps[i]? = some c ∧ y = .str ⟨#[c]⟩
theorem drawn_text {P : Program} {w : World} {K : PySem.W.Frag} (it : Addr) (x : Str) (t : Tok) : Drawn' P w K it x.cps.size (fun _ => True) (YSign x) (fun i h => h.IsStrIter it (strIterType x) x t i) := by
  intro X hP hw hK hc pins s σ H I hit _
  subst hP hw hK
  refine ⟨[it], _, _, Draws.text (A := X.A.in1) (I.ok.hd hc) it x t, by simp, fun b hb _ => by simpa using hb, fun _ h => h, fun _ _ h => h, fun i v h => ?_⟩
  obtain ⟨c, u, hx, rfl⟩ := h
  exact ⟨.str ⟨#[c]⟩, ⟨u, rfl⟩, c, hx, rfl⟩
def iEnumT (ta : TA) : TI := fun σ H R => ta σ H fun vs H1 => ∃ x, vs = [.str x] ∧ R (Itn x.cps.size (fun _ => True) (YSign x)) H1
theorem pi_enumT {X : Cx} {e : Expr} {ta : TA} {p pos tpos : Pos} {elts : List Expr} {kk : Nat} (hg : Gl X "enumerate") (hm : X.mg "enumerate" = none) (ha : PA X [e] ta) (hs : starEach [e] X.env = [(false, eval e X.env)] := by rfl) :
    PI X (.Tuple elts kk tpos) (.Call (.Name "enumerate" p) [e] [] pos) (iEnumT ta) := by
  refine ⟨fun pins s σ H R I h => ?_⟩
  refine Call_ (ld_blt I hg hm boot_enumerate (PyProof.Rows.callWith_type1 (thn (ha.run pos pins s σ H _ I h) fun us s1 ⟨vs, H1, I1, r1, q1⟩ => ?_) hs rfl))
  obtain ⟨x, ex, q⟩ := q1
  subst ex
  obtain ⟨u, rfl, ru⟩ := vals1 r1
  obtain ⟨t, rfl⟩ := ru
  refine call_enumerate_str fun h' he hit hsz hk => wpAny_pyIter_enum he ?_
  have I2 : Inv X pins σ H1 { s1 with heap := h' } := I1.kept (t' := s1.toks) hk
  refine ⟨s1.heap.objs.size + 1, [s1.heap.objs.size + 1, s1.heap.objs.size], _, _, H1, rfl, I2, turn_enumS (drawn_text s1.heap.objs.size x t) (fun i h st => ?_) (fun i h h' st k => ?_), ⟨⟨.none, he⟩, hit, Nat.succ_ne_self _⟩, fun b hb => ?_, q⟩
  · obtain ⟨o, ho, hc, hd⟩ := st
    exact ⟨o, ho, fun v z => by rw [hd] at z; cases z⟩
  · obtain ⟨o, ho, r⟩ := st
    exact ⟨o, k o ho, r⟩
  · have e' : b = s1.heap.objs.size + 1 ∨ b = s1.heap.objs.size := by simpa using hb
    have hle : s1.heap.objs.size ≤ b := by
      rcases e' with z | z
      · rw [z]; exact Nat.le_add_right _ _
      · rw [z]; exact Nat.le_refl _
    exact I1.fpOk hle (I1.hok.fresh hle)

/-! ### a list or a tuple -/
def IsSq (o : HO) (xs : List V) : Prop := o = .lst xs ∨ o = .tup xs
def YItem (xs : List V) : Nat → V → Prop := fun i y => xs[i]? = some y
theorem drawn_list {P : Program} {w : World} {K : PySem.W.Frag} (it a : Addr) (xs : List V) : Drawn' P w K it xs.length (fun H => H a = some (.lst xs)) (YItem xs) (fun i h => h.IsListIter it a i) := by
  intro X hP hw hK hc pins s σ H I hit hG
  subst hP hw hK
  obtain ⟨its, r, p, hz⟩ := I.list (SqL.of hG)
  have hl : its.toArray.size = xs.length := by rw [List.size_toArray]; exact r.length.symm
  have D := Draws.list (prog := X.prog) (w := X.w) (A := X.A.in1) (I.ok.hd hc) it a (ne_of_none hG hit) its.toArray
  rw [hl] at D
  refine ⟨[it, a], _, _, D, by simp, fun b hb hn => ?_, fun i h => ⟨h, p.isList⟩, fun i h q => q.1, fun i v h => ?_⟩
  · simp only [List.mem_cons, List.not_mem_nil, or_false, not_or]
    exact ⟨hb, fun z => ne_of_none hG hn z.symm⟩
  · have hi : i < xs.length := by
      rw [← hl]
      exact (Array.getElem?_eq_some_iff.mp h).1
    obtain ⟨u, hu, ru⟩ := r.get (List.getElem?_eq_getElem hi)
    have hu' : its.toArray[i]? = some u := by simpa using hu
    rw [hu'] at h
    cases h
    exact ⟨xs[i], ru, List.getElem?_eq_getElem hi⟩
theorem drawn_tuple {P : Program} {w : World} {K : PySem.W.Frag} (it a : Addr) (xs : List V) : Drawn' P w K it xs.length (fun H => H a = some (.tup xs)) (YItem xs) (fun i h => h.IsTupleIter it a i) := by
  intro X hP hw hK hc pins s σ H I hit hG
  subst hP hw hK
  obtain ⟨its, r, p, hz⟩ := I.tuple (SqT.of hG)
  have hl : its.toArray.size = xs.length := by rw [List.size_toArray]; exact r.length.symm
  have D := Draws.tuple (prog := X.prog) (w := X.w) (A := X.A.in1) (I.ok.hd hc) it a (ne_of_none hG hit) its.toArray
  rw [hl] at D
  refine ⟨[it, a], _, _, D, by simp, fun b hb hn => ?_, fun i h => ⟨h, p⟩, fun i h q => q.1, fun i v h => ?_⟩
  · simp only [List.mem_cons, List.not_mem_nil, or_false, not_or]
    exact ⟨hb, fun z => ne_of_none hG hn z.symm⟩
  · have hi : i < xs.length := by
      rw [← hl]
      exact (Array.getElem?_eq_some_iff.mp h).1
    obtain ⟨u, hu, ru⟩ := r.get (List.getElem?_eq_getElem hi)
    have hu' : its.toArray[i]? = some u := by simpa using hu
    rw [hu'] at h
    cases h
    exact ⟨xs[i], ru, List.getElem?_eq_getElem hi⟩

theorem meets_enum_one {v : Value} {o : Obj} {Hq : Heap → Prop} (B : Begins v o Hq) :
    Meets (Builtin.«enumerate.__new__» ⟨[.type "enumerate", v], []⟩) (fun _ R s => Hq s.heap ∧
      R (.ok (.ret (.ref (s.heap.push o).objs.size))) { s with heap := (s.heap.push o).push { cls := .type "enumerate", data := .fields #[.none, .bool false, .ref s.heap.objs.size, rawInt 0, .none, .none] } }) :=
  .of_wp fun prog w A R s h => by
    obtain ⟨hp, g, d, tk, os⟩ := s
    obtain ⟨h1, h⟩ := h
    have hsub := sub_enumerate
    have q1 : ∀ {A' : Around} {E : Value → Shared → Prop} {Q : Value → Shared → Prop}, Q (.ref hp.objs.size) ⟨hp.push o, g, d, tk, os⟩ → wpAny (model prog w) A' (pyIter v) Q E ⟨hp, g, d, tk, os⟩ :=
      fun q => B.iter prog w _ _ ⟨hp, g, d, tk, os⟩ _ h1 q
    wp_walk using q1
    refine wpAny_stack_any fun st => wpAny_pure ?_
    split
    · rename_i c _ _ _ _ _
      cases (c == Value.type "enumerate")
      · wp_walk using q1
        exact ⟨_, rfl, h⟩
      · wp_walk using q1
        exact ⟨_, rfl, h⟩
    · wp_walk using q1
      exact ⟨_, rfl, h⟩
theorem call_enum_one {prog : Program} {w : World} {A : Around} {E : Value → Shared → Prop} {s : Shared} {v : Value} {o : Obj} {Hq : Heap → Prop} {Q : Value → Shared → Prop} (B : Begins v o Hq) (h1 : Hq s.heap)
    (h : ∀ h', IsEnum h' (s.heap.objs.size + 1) s.heap.objs.size 0 .none → h'.get? s.heap.objs.size = some o → (∀ b o, s.heap.get? b = some o → h'.get? b = some o) → Q (.ref (s.heap.objs.size + 1)) { s with heap := h' }) :
    wpAny (model prog w) A (call (.type "enumerate") [v]) Q E s := by
  refine callType_new F.called_enumerate (by decide) (F.typeCall_enumerate_1 _) (F.newCall_enumerate_1 _) (fun obj => F.args_object_init_2 obj _) F.entry_enumerate_new (meets_enum_one B) ⟨h1, ?_⟩
  have hz : (s.heap.push o).objs.size = s.heap.objs.size + 1 := Heap.size_push ..
  show _ ∧ _
  rw [hz]
  have he : IsEnum ((s.heap.push o).push { cls := .type "enumerate", data := .fields #[.none, .bool false, .ref s.heap.objs.size, rawInt 0, .none, .none] }) (s.heap.objs.size + 1) s.heap.objs.size 0 .none := by
    have q := Heap.get?_push_size (s.heap.push o) (o := { cls := .type "enumerate", data := .fields #[.none, .bool false, .ref s.heap.objs.size, rawInt 0, .none, .none] }) rfl
    rw [hz] at q
    exact q
  exact ⟨⟨_, he, rfl⟩, h _ he (Heap.get?_push_of_some _ (Heap.get?_push_size _ B.free)) fun b o x => Heap.get?_push_of_some _ (Heap.get?_push_of_some _ x)⟩

def iEnumS (ta : TA) : TI := fun σ H R => ta σ H fun vs H1 => ∃ a o xs, vs = [.ref a] ∧ H1 a = some o ∧ IsSq o xs ∧ R (Itn xs.length (fun H => H a = some o) (YItem xs)) H1
theorem pi_enumS {X : Cx} {e : Expr} {ta : TA} {p pos tpos : Pos} {elts : List Expr} {kk : Nat} (hg : Gl X "enumerate") (hm : X.mg "enumerate" = none) (ha : PA X [e] ta) (hs : starEach [e] X.env = [(false, eval e X.env)] := by rfl) :
    PI X (.Tuple elts kk tpos) (.Call (.Name "enumerate" p) [e] [] pos) (iEnumS ta) := by
  refine ⟨fun pins s σ H R I h => ?_⟩
  refine Call_ (ld_blt I hg hm boot_enumerate (PyProof.Rows.callWith_type1 (thn (ha.run pos pins s σ H _ I h) fun us s1 ⟨vs, H1, I1, r1, q1⟩ => ?_) hs rfl))
  obtain ⟨a, o, xs, ex, hH, hx, q⟩ := q1
  subst ex
  obtain ⟨u, rfl, ru⟩ := vals1 r1
  cases ru
  have fresh : ∀ (h' : Heap) b, b ∈ [s1.heap.objs.size + 1, s1.heap.objs.size] → FpOk X pins H1 b := fun h' b hb => by
    have e' : b = s1.heap.objs.size + 1 ∨ b = s1.heap.objs.size := by simpa using hb
    have hle : s1.heap.objs.size ≤ b := by
      rcases e' with z | z
      · rw [z]; exact Nat.le_add_right _ _
      · rw [z]; exact Nat.le_refl _
    exact I1.fpOk hle (I1.hok.fresh hle)
  rcases hx with rfl | rfl
  · obtain ⟨its, rv, p', hz⟩ := I1.list (SqL.of hH)
    refine call_enum_one (begins_list a its.toArray) p'.isList fun h' he hit hk => wpAny_pyIter_enum he ?_
    have I2 : Inv X pins σ H1 { s1 with heap := h' } := I1.kept (t' := s1.toks) hk
    refine ⟨s1.heap.objs.size + 1, [s1.heap.objs.size + 1, s1.heap.objs.size], _, _, H1, rfl, I2, turn_enumS (drawn_list s1.heap.objs.size a xs) (fun i h st => ?_) (fun i h h' st k => ?_), ⟨⟨.none, he⟩, ⟨_, hit, rfl, rfl⟩, Nat.succ_ne_self _⟩, fresh h', q⟩
    · obtain ⟨o, ho, hc, hd⟩ := st
      exact ⟨o, ho, fun v z => by rw [hd] at z; cases z⟩
    · obtain ⟨o, ho, r⟩ := st
      exact ⟨o, k o ho, r⟩
  · obtain ⟨its, rv, p', hz⟩ := I1.tuple (SqT.of hH)
    refine call_enum_one (begins_tuple a its.toArray) p' fun h' he hit hk => wpAny_pyIter_enum he ?_
    have I2 : Inv X pins σ H1 { s1 with heap := h' } := I1.kept (t' := s1.toks) hk
    refine ⟨s1.heap.objs.size + 1, [s1.heap.objs.size + 1, s1.heap.objs.size], _, _, H1, rfl, I2, turn_enumS (drawn_tuple s1.heap.objs.size a xs) (fun i h st => ?_) (fun i h h' st k => ?_), ⟨⟨.none, he⟩, ⟨_, hit, rfl, rfl⟩, Nat.succ_ne_self _⟩, fresh h', q⟩
    · obtain ⟨o, ho, hc, hd⟩ := st
      exact ⟨o, ho, fun v z => by rw [hd] at z; cases z⟩
    · obtain ⟨o, ho, r⟩ := st
      exact ⟨o, k o ho, r⟩
end Ev
/-! Texts as lists of code points; min of texts; text * int. -/
namespace Ev
open PySem PySem.Spec PyProof.Rows L2

def T (l : List Nat) : Str := ⟨l.toArray⟩
theorem T_tl (l : List Nat) : (T l).cps.toList = l := rfl
theorem T_len (l : List Nat) : (T l).length = l.length := by simp [T, Str.length]
theorem T_app (a b : List Nat) : T a ++ T b = T (a ++ b) := by
  show (⟨a.toArray ++ b.toArray⟩ : Str) = ⟨(a ++ b).toArray⟩
  simp
theorem T_inj {a b : List Nat} : T a = T b ↔ a = b := ⟨fun h => by
  have q : (T a).cps.toList = (T b).cps.toList := by rw [h]
  exact q, fun h => by rw [h]⟩
theorem T_eq (x : Str) : x = T x.cps.toList := by
  cases x with
  | mk c => simp [T]
theorem T_at (l : List Nat) (i : Nat) : (T l).cps[i]? = l[i]? := by simp [T]
theorem T_size (l : List Nat) : (T l).cps.size = l.length := by simp [T]
theorem T_cut (l : List Nat) (lo hi : Option Int) : cutS (T l) lo hi = T ((l.drop (HT.sIx l.length 0 lo)).take (HT.sIx l.length l.length hi - HT.sIx l.length 0 lo)) := by
  unfold cutS
  rw [T_len, T_tl]
  rfl
theorem T_take (l : List Nat) {k : Int} {n : Nat} (h : k = (n : Nat)) : cutS (T l) none (some k) = T (l.take n) := by
  subst h
  rw [T_cut, HT.sIx_none, HT.sIx_nat, List.drop_zero, Nat.sub_zero]
  congr 1
  by_cases hn : n ≤ l.length
  · rw [Nat.min_eq_left hn]
  · rw [Nat.min_eq_right (by omega), List.take_of_length_le (Nat.le_refl _), List.take_of_length_le (by omega)]
theorem T_drop (l : List Nat) {k : Int} {n : Nat} (h : k = (n : Nat)) : cutS (T l) (some k) none = T (l.drop n) := by
  subst h
  rw [T_cut, HT.sIx_none, HT.sIx_nat]
  congr 1
  rw [List.take_of_length_le (by rw [List.length_drop]; omega)]
  by_cases hn : n ≤ l.length
  · rw [Nat.min_eq_left hn]
  · rw [Nat.min_eq_right (by omega), List.drop_of_length_le (Nat.le_refl _), List.drop_of_length_le (by omega)]
theorem T_mid (l : List Nat) {i k : Int} {m n : Nat} (hi : i = (m : Nat)) (h : k = (n : Nat)) : cutS (T l) (some i) (some k) = T ((l.take n).drop m) := by
  subst hi h
  rw [T_cut, HT.sIx_nat, HT.sIx_nat, List.drop_take]
  congr 1
  by_cases hm : m ≤ l.length
  · rw [Nat.min_eq_left hm]
    by_cases hn : n ≤ l.length
    · rw [Nat.min_eq_left hn]
    · rw [Nat.min_eq_right (by omega), List.take_of_length_le (by rw [List.length_drop]; omega), List.take_of_length_le (by rw [List.length_drop]; omega)]
  · rw [Nat.min_eq_right (show l.length ≤ m by omega), List.drop_of_length_le (Nat.le_refl _), List.drop_of_length_le (show l.length ≤ m by omega), List.take_nil, List.take_nil]
/-- the written texts -/
theorem s_one : Str.ofString "1" = T [49] := by decide +kernel
theorem s_zero : Str.ofString "0" = T [48] := by decide +kernel
theorem s_empty : Str.ofString "" = T [] := by decide +kernel
theorem dec_sign (c d : Nat) : decide (V.str ⟨#[c]⟩ = V.str (T [d])) = decide (c = d) := by
  have e : (⟨#[c]⟩ : Str) = T [c] := rfl
  rw [e]
  by_cases h : c = d
  · subst h; simp
  · rw [decide_eq_false h, decide_eq_false]
    intro q
    injection q with q
    exact h (by simpa using T_inj.mp q)
theorem dec_T (a b : List Nat) : decide (V.str (T a) = V.str (T b)) = decide (a = b) := by
  by_cases h : a = b
  · subst h; simp
  · rw [decide_eq_false h, decide_eq_false]
    intro q
    injection q with q
    exact h (T_inj.mp q)
def VT (l : List Nat) : V := .str (T l)

/-! ### min of texts -/
theorem argBest_ext {bt bt' : Nat → Nat → Bool} (h : ∀ i j, bt i j = bt' i j) : ∀ k, argBest bt k = argBest bt' k
  | 0 => rfl
  | k + 1 => by
    unfold argBest
    rw [argBest_ext h k, h]
def btT (ls : List (List Nat)) (i j : Nat) : Bool := decide (ls.getD i [] < ls.getD j [])
theorem best_le (bt : Nat → Nat → Bool) : ∀ k, argBest bt k ≤ k
  | 0 => Nat.le_refl _
  | k + 1 => by
    unfold argBest
    split
    · exact Nat.le_refl _
    · exact Nat.le_succ_of_le (best_le bt k)
theorem minL_snoc (ls : List (List Nat)) (x : List Nat) (h : ls ≠ []) : Mi.minL (ls ++ [x]) = Mi.min2 (Mi.minL ls) x := by
  cases ls with
  | nil => exact absurd rfl h
  | cons a r =>
    show (r ++ [x]).foldl Mi.min2 a = Mi.min2 (r.foldl Mi.min2 a) x
    rw [List.foldl_append]
    rfl
theorem best_min (ls : List (List Nat)) : ∀ k, k < ls.length → ls.getD (argBest (btT ls) k) [] = Mi.minL (ls.take (k + 1))
  | 0, h => by
    cases ls with
    | nil => exact absurd h (by simp)
    | cons a r => rfl
  | k + 1, h => by
    have ih := best_min ls k (by omega)
    have e : ls.take (k + 1 + 1) = ls.take (k + 1) ++ [ls.getD (k + 1) []] := by
      rw [List.take_succ_eq_append_getElem h]
      congr 2
      simp [h]
    have hne : ls.take (k + 1) ≠ [] := fun q => by
      have h2 := congrArg List.length q
      rw [List.length_take, List.length_nil] at h2
      omega
    have hb : argBest (btT ls) (k + 1) = if btT ls (k + 1) (argBest (btT ls) k) = true then k + 1 else argBest (btT ls) k := rfl
    rw [e, minL_snoc _ _ hne, ← ih, hb]
    by_cases c : btT ls (k + 1) (argBest (btT ls) k) = true
    · rw [if_pos c]
      unfold Mi.min2
      rw [if_pos (of_decide_eq_true c)]
    · rw [if_neg c]
      unfold Mi.min2
      rw [if_neg (fun q => c (decide_eq_true q))]
theorem cmp_texts {prog : Program} {w : World} {A : Around} {ls : List (List Nat)} {its : List Value} (r : Vals (ls.map VT) its) : CmpOf prog w A .Lt (fun i v => its.toArray[i]? = some v) (btT ls) := by
  have at' : ∀ (i : Nat) (v : Value), its.toArray[i]? = some v → ∃ t, v = Value.str (T (ls.getD i [])) t := fun i v h => by
    have h' : its[i]? = some v := by simpa using h
    have hi : i < (ls.map VT).length := by
      rw [r.length]
      exact (List.getElem?_eq_some_iff.mp h').1
    obtain ⟨u, hu, ru⟩ := r.get (List.getElem?_eq_getElem hi)
    rw [h'] at hu
    cases hu
    have hi2 : i < ls.length := by simpa using hi
    have e : (ls.map VT)[i] = VT (ls.getD i []) := by simp [hi2]
    rw [e] at ru
    exact ru
  intro i j vi vj s Q E hi hj h
  obtain ⟨t, rfl⟩ := at' i vi hi
  obtain ⟨u, rfl⟩ := at' j vj hj
  exact lt_str (show Q (.bool (decide ((T (ls.getD i [])).cps.toList < (T (ls.getD j [])).cps.toList))) s from h)

section
variable {X : Cx}
theorem min_fin {pins : List (Addr × Obj)} {σ : L2.St} {H : Hp} {s : Shared} {Q : VK} {ls : List (List Nat)} {its : List Value} {v : Value} {h' : Heap} {tk : Tok} {s2 : Shared} (e2 : s2 = { s with heap := h', toks := tk }) (I : Inv X pins σ H s) (hne : ls ≠ []) (r : Vals (ls.map VT) its)
    (hP : its.toArray[argBest (btT ls) (its.toArray.size - 1)]? = some v) (k : ∀ b o, s.heap.get? b = some o → h'.get? b = some o) (q : Q (VT (Mi.minL ls)) H) : EP X pins σ Q v s2 := by
  subst e2
  have hl : its.toArray.size = ls.length := by
    rw [List.size_toArray, ← r.length, List.length_map]
  have hpos : 0 < ls.length := List.length_pos_iff.mpr hne
  rw [hl] at hP
  have hP' : its[argBest (btT ls) (ls.length - 1)]? = some v := by simpa using hP
  have hi := (List.getElem?_eq_some_iff.mp hP').1
  have hi2 : argBest (btT ls) (ls.length - 1) < ls.length := by
    have := r.length
    rw [List.length_map] at this
    omega
  obtain ⟨u, hu, ru⟩ := r.get (i := argBest (btT ls) (ls.length - 1)) (x := VT (ls.getD (argBest (btT ls) (ls.length - 1)) [])) (by simp [hi2])
  rw [hP'] at hu
  cases hu
  rw [best_min ls _ (by omega), Nat.sub_add_cancel hpos, List.take_of_length_le (Nat.le_refl _)] at ru
  exact ⟨_, H, I.kept k, ru, q⟩
/-- min(list of texts) -/
theorem call_minT (hc : X.calm = true) : CallR X (.builtin "min") (fun xs H Q => ∃ a ls, xs = [.ref a] ∧ H a = some (.lst (ls.map VT)) ∧ ls ≠ [] ∧ Q (VT (Mi.minL ls)) H) := by
  intro pins s σ H xs us Q I r h
  obtain ⟨a, ls, rfl, ha, hne, q⟩ := h
  obtain ⟨u, rfl, ru⟩ := vals1 r
  cases ru
  obtain ⟨its, rv, p, hz⟩ := I.list (SqL.of ha)
  have hh := I.ok.hd hc
  have hlt : a < s.heap.objs.size := p.lt
  have hsz : 0 < its.toArray.size := by
    rw [List.size_toArray, ← rv.length, List.length_map]
    exact List.length_pos_iff.mpr hne
  refine call_min_walk (wpAny_pyIter_list p.isList ⟨_, _, _, _, _, _, _, rfl, Walks.list (A := X.A.in1) hh s.heap.objs.size a (Nat.ne_of_lt hlt) its.toArray, ⟨⟨_, Heap.get?_push_size _ rfl, rfl, rfl⟩, p.isList.push _⟩, fun b hb => ?_, hsz, cmp_texts rv, fun v h' tk hP hk => ?_⟩)
  · show b < (s.heap.push _).objs.size
    rw [Heap.size_push]
    rcases List.mem_cons.mp hb with rfl | hb
    · exact Nat.lt_succ_self _
    · rcases List.mem_cons.mp hb with rfl | hb
      · exact Nat.lt_succ_of_lt hlt
      · cases hb
  · refine min_fin (s := s) rfl I hne rv hP (fun b o e => ?_) q
    refine hk b o (fun hm => ?_) (Heap.get?_push_of_some _ e)
    have e' : b = s.heap.objs.size := by simpa using hm
    exact absurd (Heap.lt_size e) (by rw [e']; exact Nat.lt_irrefl _)
/-- min(text, text) -/
theorem call_minT2 (hc : X.calm = true) : CallR X (.builtin "min") (fun xs H Q => ∃ a b, xs = [VT a, VT b] ∧ Q (VT (Mi.min2 a b)) H) := by
  intro pins s σ H xs us Q I r h
  obtain ⟨a, b, rfl, q⟩ := h
  obtain ⟨u, u2, rfl, ru, ru2⟩ := vals2 r
  have rv : Vals ([a, b].map VT) [u, u2] := .cons ru (.cons ru2 .nil)
  have hh := I.ok.hd hc
  have hT : (s.heap.push { cls := .type "tuple", data := .seq #[u, u2] }).IsTuple s.heap.objs.size [u, u2].toArray := ⟨_, Heap.get?_push_size _ rfl, rfl, 0, rfl⟩
  refine call_min_two (wpAny_pyIter_tuple hT ?_)
  have hsz : (s.heap.push { cls := .type "tuple", data := .seq #[u, u2] }).objs.size = s.heap.objs.size + 1 := Heap.size_push ..
  refine ⟨_, [_, s.heap.objs.size], [_], _, _, _, _, rfl, Walks.tuple (A := X.A.in1) hh _ s.heap.objs.size (by rw [hsz]; exact Nat.ne_of_lt (Nat.lt_succ_self _)) [u, u2].toArray,
    ⟨⟨_, Heap.get?_push_size _ rfl, rfl, rfl⟩, hT.push _⟩, fun c hc => ?_, by simp, cmp_texts rv, fun v h' tk hP hk => ?_⟩
  · show c < ((s.heap.push _).push _).objs.size
    rw [Heap.size_push, hsz]
    rcases List.mem_cons.mp hc with rfl | hc
    · rw [hsz]; exact Nat.lt_succ_self _
    · rcases List.mem_cons.mp hc with rfl | hc
      · exact Nat.lt_succ_of_lt (Nat.lt_succ_self _)
      · cases hc
  · refine min_fin (s := s) (ls := [a, b]) rfl I (by simp) rv hP (fun c o e => ?_) q
    refine hk c o (fun hm => ?_) (Heap.get?_push_of_some _ (Heap.get?_push_of_some _ e))
    have e' : c = (s.heap.push { cls := .type "tuple", data := .seq #[u, u2] }).objs.size := by simpa using hm
    have h3 := Heap.lt_size e
    rw [e', hsz] at h3
    exact absurd (Nat.lt_trans (Nat.lt_succ_self _) h3) (Nat.lt_irrefl _)
end
end Ev
/-! text * int, slices backwards, walks over a list or a tuple, repr of data. -/
namespace Ev
open PySem PySem.Spec PyProof.Rows L2
section
variable {X : Cx}
theorem fold_one (c : Nat) : ∀ (n : Nat) (acc : Array Nat), (List.replicate n (#[c] : Array Nat)).foldl (· ++ ·) acc = acc ++ (List.replicate n c).toArray
  | 0, acc => by simp
  | n + 1, acc => by
    rw [List.replicate_succ, List.foldl_cons, fold_one c n, List.replicate_succ]
    apply Array.toList_inj.mp
    simp
/-- one sign, so many times -/
theorem op_mulT : OpR X (binaryOp .Mult) (fun x y H Q => ∃ c k, x = VT [c] ∧ y = .int k ∧ -1000 ≤ k ∧ k ≤ 1000 ∧ Q (VT (List.replicate k.toNat c)) H) := by
  intro pins s σ H x y v u Q I rx ry h
  obtain ⟨c, k, rfl, rfl, h1, h2, q⟩ := h
  obtain ⟨t, rfl⟩ := rx
  obtain ⟨t', rfl⟩ := ry
  have hlen : (T [c]).length = 1 := rfl
  have hlong : Builtin.Str.tooLong ((T [c]).length * k.toNat) = false := by
    rw [hlen]
    unfold Builtin.Str.tooLong
    have : (1 * k.toNat) ≤ 1000 := by omega
    first
      | exact decide_eq_false (by rw [sizeLine_eq]; omega)
      | (simp; omega)
  refine PySem.P.mul_str ?_ (fun _ _ => ?_) (fun _ _ => hlong) ?_
  · rw [decide_eq_false (by omega), decide_eq_false (by omega)] <;> rfl
  · rw [hlen]
    have hk : 1 ≤ k := by omega
    have : (1 : Int) ≤ (2 ^ 63 - 1) / k := by
      refine (Int.le_ediv_iff_mul_le (by omega)).mpr ?_
      omega
    have e1 : (((1 : Nat)) : Int) = 1 := rfl
    omega
  · by_cases hk : k < 1
    · rw [if_pos hk]
      have e0 : k.toNat = 0 := by omega
      rw [e0] at q
      exact ⟨by decide, VT [], H, I.tok _, ⟨_, rfl⟩, q⟩
    · rw [if_neg hk]
      by_cases h1' : (k == 1 || (T [c]).length == 0) = true
      · rw [if_pos h1']
        have e1 : k = 1 := by
          rw [hlen] at h1'
          simpa using h1'
        subst e1
        exact ⟨VT [c], H, I, ⟨t, rfl⟩, q⟩
      · rw [if_neg h1']
        have e : (⟨(List.replicate k.toNat (T [c]).cps).foldl (· ++ ·) #[]⟩ : Str) = T (List.replicate k.toNat c) := by
          show (⟨(List.replicate k.toNat #[c]).foldl (· ++ ·) #[]⟩ : Str) = _
          rw [fold_one]
          simp [T]
        rw [e]
        refine ⟨?_, VT _, H, I.tok _, ⟨_, rfl⟩, q⟩
        rw [T_len, List.length_replicate, sizeLine_eq]
        omega

/-! ### slices backwards -/
theorem vals_pick {xs : List V} {us : List Value} (r : Vals xs us) : ∀ is : List Nat, Vals (is.filterMap (xs[·]?)) (is.filterMap (us[·]?))
  | [] => .nil
  | i :: is => by
    cases e : xs[i]? with
    | none =>
      have e2 := r.none_of e
      rw [List.filterMap_cons_none e, List.filterMap_cons_none e2]
      exact vals_pick r is
    | some x =>
      obtain ⟨u, e2, ru⟩ := r.get e
      rw [List.filterMap_cons_some e, List.filterMap_cons_some e2]
      exact .cons ru (vals_pick r is)
/-- xs[lo:hi:-1] -/
def backV (lo hi : Option Int) (xs : List V) : List V :=
  (sliceRange (sliceBounds lo hi (some (-1)) xs.length).1 (sliceBounds lo hi (some (-1)) xs.length).2.1 (-1)).filterMap (xs[·]?)
theorem backV_mem {lo hi : Option Int} {xs : List V} {x : V} (h : x ∈ backV lo hi xs) : x ∈ xs := by
  obtain ⟨i, _, e⟩ := List.mem_filterMap.mp h
  exact List.mem_of_getElem? e
theorem backV_len (lo hi : Option Int) (xs : List V) : (backV lo hi xs).length ≤ xs.length := by
  unfold backV
  refine Nat.le_trans (List.length_filterMap_le _ _) ?_
  refine sliceRange_length_le _ _ _ _ (fun h => absurd h (by decide)) fun _ => ?_
  unfold sliceBounds
  cases lo <;> cases hi <;> simp <;> omega
theorem backV_all (xs : List V) : backV none none xs = xs.reverse := by
  unfold backV
  rw [PySem.W.krv_bounds]
  show (sliceRange ((xs.length : Int) - 1) (-1) (-1)).filterMap (xs[·]?) = _
  rw [PySem.W.krv_sliceRange, PySem.W.krv_range, List.filterMap_reverse]
  have h := PySem.W.krv_all xs.toArray
  simp at h
  rw [h]
def tBack (K : PySem.W.Frag) (te : TE) (tl th : TO) : TE := fun σ H Q => te σ H fun x H1 => tl σ H1 fun l H2 => th σ H2 fun u H3 => ∃ a xs, x = .ref a ∧ SqL K H3 a xs ∧ ∀ p, H3 p = none → Q (.ref p) (upd H3 p (.lst (backV l u xs)))
theorem pe_back {e : Expr} {lo hi : Option Expr} {te : TE} {tl th : TO} {k : Nat} {p1 p2 p3 pos : Pos} (he : PE X e te) (hl : PO X lo tl) (hu : PO X hi th)
    (hops : ∀ a b, subscripted (.Slice lo hi (some (.UnaryOp .USub (.Constant (.int 1) k p1) p2)) p3) false a b = operate [a, b] (getItem a b) := by intro _ _; with_unfolding_all rfl) :
    PE X (.Subscript e (.Slice lo hi (some (.UnaryOp .USub (.Constant (.int 1) k p1) p2)) p3) pos) (tBack X.K te tl th) := by
  refine ⟨fun pins s σ H Q I h => ?_⟩
  refine Subscript_ (thn (he.run pins s σ H _ I h) fun v s1 ⟨x, H1, I1, r1, q1⟩ => ?_)
  have hst : PO X (some (.UnaryOp .USub (.Constant (.int 1) k p1) p2)) (tPart (tUn (rU fun i => .int (-i)) (tC (.int 1)))) := po_some (pe_un un_neg pe_int)
  refine wpAny_Slice (thn (hl.run pins s1 σ H1 _ I1 q1) fun vl s2 ⟨l, H2, I2, pl, q2⟩ => ?_)
  refine thn (hu.run pins s2 σ H2 _ I2 q2) fun vu s3 ⟨u, H3, I3, pu, q3⟩ => ?_
  refine thn (hst.run pins s3 σ H3 (fun o H4 => o = some (-1) ∧ H4 = H3) I3 ⟨1, rfl, -1, rfl, rfl, rfl⟩) fun vs s4 ⟨o, H4, I4, ps, eo, e4⟩ => ?_
  subst eo e4
  obtain ⟨a, xs, ex, hx, q⟩ := q3
  subst ex
  cases r1
  have I5 : Inv X pins σ H4 { s4 with heap := s4.heap.push { cls := .type "slice", data := .fields #[vl, vu, vs] } } := I4.kept (t' := s4.toks) fun b ob q => Heap.get?_push_of_some _ q
  obtain ⟨its, r, ht, hz⟩ := I5.list hx
  have hlen := r.length
  show wpAny (model X.prog X.w) X.A (subscriptTail e (.Slice lo hi (some (.UnaryOp .USub (.Constant (.int 1) k p1) p2)) p3) (.ref a) (.ref s4.heap.objs.size)) (EP X pins σ Q) X.xe { s4 with heap := s4.heap.push { cls := .type "slice", data := .fields #[vl, vu, vs] } }
  refine tail_any (ops := [.ref a, .ref s4.heap.objs.size]) ht.isList.typeIs (PySem.slot_list_getitem.lookup) ?_ (hops _ _)
  refine wpAny_getItem_list_slice ht.isList (Heap.IsSliceOf.new _ vl vu vs) pl pu ps (by decide) ?_ (by rw [List.size_toArray]; omega)
  have e : slicePick its.toArray l u (some (-1)) = ((sliceRange (sliceBounds l u (some (-1)) xs.length).1 (sliceBounds l u (some (-1)) xs.length).2.1 (-1)).filterMap (its[·]?)).toArray := by
    unfold slicePick
    rw [List.size_toArray, ← hlen]
    have e2 : (sliceBounds l u (some (-1)) xs.length).2.2 = -1 := rfl
    rw [e2]
    simp
  rw [e]
  refine ⟨.ref _, _, I5.laid (t' := s4.toks) (o := .lst (backV l u xs)) (fun b ob q => Heap.get?_push_of_some _ q) (Nat.le_refl _) ?_, rfl, q _ (I5.hok.fresh (Nat.le_refl _))⟩
  exact ⟨Nat.le_trans (backV_len l u xs) hz, _, 0, vals_pick r _, Heap.get?_push_size _ rfl⟩

/-! ### a walk over a list or a tuple -/
theorem Turn.imp {P : Program} {w : World} {K : PySem.W.Frag} {tg : Expr} {J J' : It} {fp : List Addr} {it : Addr} {tn : Nat → Heap → Prop} (t : Turn P w K tg J fp it tn) (hg : ∀ i H, J'.go i H → J.go i H) (hs : ∀ i H, J'.stop i H → J.stop i H)
    (hy : ∀ i H x H', J'.go i H → J.yld i H x H' → J'.yld i H x H') : Turn P w K tg J' fp it tn where
  mem := t.mem
  obj := t.obj
  keep := t.keep
  item := fun X hP hw hK hc i pins s σ H E I hf st g => thn (t.item X hP hw hK hc i pins s σ H E I hf st (hg _ _ g)) fun r s1 ⟨u, hu, h⟩ => ⟨u, hu, thn h fun _ s2 ⟨x, H', I', rx, y, z⟩ => ⟨x, H', I', rx, hy _ _ _ _ g y, z⟩⟩
  done := fun X hP hw hK hc i pins s σ H E I hf st g => t.done X hP hw hK hc i pins s σ H E I hf st (hs _ _ g)
  self := t.self
def Itq (a : Addr) (o : HO) (xs : List V) : It := ⟨fun i H => H a = some o ∧ i < xs.length, fun i H x H' => H' = H ∧ xs[i]? = some x, fun i H => H a = some o ∧ xs.length ≤ i⟩
theorem turn_seqL {P : Program} {w : World} {K : PySem.W.Frag} {tg : Expr} (a it : Addr) (xs : List V) : Turn P w K tg (Itq a (.lst xs) xs) [it] it (fun i h => h.IsListIter it a i) :=
  Turn.imp (turn_list a it) (fun i H g => ⟨xs, xs[i]'g.2, SqL.of g.1, List.getElem?_eq_getElem g.2⟩) (fun i H g => ⟨xs, SqL.of g.1, g.2⟩) (fun i H x H' g y => ⟨y.1, y.2 xs (SqL.of g.1)⟩)
theorem turn_seqT {P : Program} {w : World} {K : PySem.W.Frag} {tg : Expr} (a it : Addr) (xs : List V) : Turn P w K tg (Itq a (.tup xs) xs) [it] it (fun i h => h.IsTupleIter it a i) :=
  Turn.imp (turn_tuple a it) (fun i H g => ⟨xs, xs[i]'g.2, SqT.of g.1, List.getElem?_eq_getElem g.2⟩) (fun i H g => ⟨xs, SqT.of g.1, g.2⟩) (fun i H x H' g y => ⟨y.1, y.2 xs (SqT.of g.1)⟩)
def iSeq (te : TE) : TI := fun σ H R => te σ H fun x H1 => ∃ a o xs, x = .ref a ∧ H1 a = some o ∧ IsSq o xs ∧ R (Itq a o xs) H1
theorem pi_seq {tg l : Expr} {tl : TE} (hl : PE X l tl) : PI X tg l (iSeq tl) := by
  refine ⟨fun pins s σ H R I h => ?_⟩
  refine thn (hl.run pins s σ H _ I h) fun v s1 ⟨x, H1, I1, r1, q1⟩ => ?_
  obtain ⟨a, o, xs, e, hH, hx, q⟩ := q1
  subst e
  cases r1
  have fin : ∀ b ∈ [s1.heap.objs.size], FpOk X pins H1 b := fun b hb => by
    have e : b = s1.heap.objs.size := by simpa using hb
    subst e
    exact I1.fpOk (Nat.le_refl _) (I1.hok.fresh (Nat.le_refl _))
  rcases hx with rfl | rfl
  · obtain ⟨its, rv, p, hz⟩ := I1.list (SqL.of hH)
    refine wpAny_pyIter_list p.isList ?_
    refine ⟨s1.heap.objs.size, [s1.heap.objs.size], _, _, H1, rfl, I1.kept (t' := s1.toks) fun b o e => Heap.get?_push_of_some _ e, turn_seqL a _ xs, ⟨_, Heap.get?_push_size _ rfl, rfl, rfl⟩, fin, q⟩
  · obtain ⟨its, rv, p, hz⟩ := I1.tuple (SqT.of hH)
    refine wpAny_pyIter_tuple (show s1.heap.IsTuple a its.toArray from p) ?_
    refine ⟨s1.heap.objs.size, [s1.heap.objs.size], _, _, H1, rfl, I1.kept (t' := s1.toks) fun b o e => Heap.get?_push_of_some _ e, turn_seqT a _ xs, ⟨_, Heap.get?_push_size _ rfl, rfl, rfl⟩, fin, q⟩
theorem walk_seq {a : Addr} {o : HO} {xs : List V} : Walk (Itq a o xs) xs.length (fun H => H a = some o) (YAt xs) :=
  ⟨fun i _ hi g => ⟨g, hi⟩, fun _ g => ⟨g, Nat.le_refl _⟩, fun _ _ _ _ _ _ y => y⟩

/-! ### repr of a list or a tuple of data -/
theorem call_reprD (hg : X.A.guards = some []) (hu : X.A.units + 64 < cLine) : CallR X (.builtin "repr") (fun xs H Q => ∃ a d, xs = [.ref a] ∧ Dp X.K H (.ref a) d ∧ d.showable = true ∧ d.hasDict = false ∧ d.depth ≤ 60 ∧ d.shown.length ≤ sizeLine ∧ Q (.str d.shown) H) := by
  intro pins s σ H xs us Q I r h
  obtain ⟨a, d, rfl, hd, h1, h2, h3, h4, q⟩ := h
  obtain ⟨u, rfl, ru⟩ := vals1 r
  obtain ⟨as, rd⟩ := Dp.reads I d _ u hd ru
  cases ru
  exact repr_of_reads' rd h1 (fun z => by rw [h2] at z; cases z) hg (by omega) (fun _ _ e => e) (fun h' u tk k => ⟨.str d.shown, H, I.kept k, ⟨u, rfl⟩, q⟩) h4
end
end Ev
namespace Ev
open PySem L2
def top (i : Nat) : Stmt := PySem.Challenge.pw_everyhalf_k68_whole_rounds_judged.main.body.getD i (.Pass ⟨0, 0, 0, 0⟩)
abbrev sFixed : Stmt := top 4
abbrev nFixed : List Str := ["value", "each"]
theorem scFixed : FnScope nFixed ["value"] (defScope sFixed) := ⟨rfl, rfl, rfl, by decide +kernel, rfl, by decide +kernel, by decide +kernel⟩
abbrev sPaperInit : Stmt := inClass (top 5) 0
abbrev nPaperInit : List Str := ["self", "word", "parts"]
theorem scPaperInit : FnScope nPaperInit ["self", "word", "parts"] (defScope sPaperInit) := ⟨rfl, rfl, rfl, by decide +kernel, rfl, by decide +kernel, by decide +kernel⟩
abbrev sPaperBool : Stmt := inClass (top 5) 1
abbrev nPaperBool : List Str := ["self"]
theorem scPaperBool : FnScope nPaperBool ["self"] (defScope sPaperBool) := ⟨rfl, rfl, rfl, by decide +kernel, rfl, by decide +kernel, by decide +kernel⟩
abbrev sPaperEq : Stmt := inClass (top 5) 2
abbrev nPaperEq : List Str := ["self", "other"]
theorem scPaperEq : FnScope nPaperEq ["self", "other"] (defScope sPaperEq) := ⟨rfl, rfl, rfl, by decide +kernel, rfl, by decide +kernel, by decide +kernel⟩
abbrev sDenialBool : Stmt := inClass (top 6) 0
abbrev nDenialBool : List Str := ["self"]
theorem scDenialBool : FnScope nDenialBool ["self"] (defScope sDenialBool) := ⟨rfl, rfl, rfl, by decide +kernel, rfl, by decide +kernel, by decide +kernel⟩
abbrev sSigns : Stmt := top 9
abbrev nSigns : List Str := ["value", "sign"]
theorem scSigns : FnScope nSigns ["value"] (defScope sSigns) := ⟨rfl, rfl, rfl, by decide +kernel, rfl, by decide +kernel, by decide +kernel⟩
abbrev sBurning : Stmt := top 14
abbrev nBurning : List Str := ["signs", "sign"]
theorem scBurning : FnScope nBurning ["signs"] (defScope sBurning) := ⟨rfl, rfl, rfl, by decide +kernel, rfl, by decide +kernel, by decide +kernel⟩
abbrev sIsState : Stmt := top 15
abbrev nIsState : List Str := ["value"]
theorem scIsState : FnScope nIsState ["value"] (defScope sIsState) := ⟨rfl, rfl, rfl, by decide +kernel, rfl, by decide +kernel, by decide +kernel⟩
abbrev sWalkInit : Stmt := inClass (top 18) 0
abbrev nWalkInit : List Str := ["self", "states"]
abbrev sWholeInit : Stmt := inClass (top 19) 0
abbrev nWholeInit : List Str := ["self", "states"]
abbrev sBrokenInit : Stmt := inClass (top 20) 0
abbrev nBrokenInit : List Str := ["self", "at", "why"]
abbrev sLacksInit : Stmt := inClass (top 21) 0
abbrev nLacksInit : List Str := ["self", "state"]
abbrev sUnlike : Stmt := top 22
abbrev nUnlike : List Str := ["one", "other", "lamp", "sign"]
theorem scUnlike : FnScope nUnlike ["one", "other"] (defScope sUnlike) := ⟨rfl, rfl, rfl, by decide +kernel, rfl, by decide +kernel, by decide +kernel⟩
abbrev sBrokenIn : Stmt := top 23
abbrev nBrokenIn : List Str := ["states", "met", "at", "value"]
theorem scBrokenIn : FnScope nBrokenIn ["states"] (defScope sBrokenIn) := ⟨rfl, rfl, rfl, by decide +kernel, rfl, by decide +kernel, by decide +kernel⟩
abbrev sLeast : Stmt := top 24
abbrev nLeast : List Str := ["front", "lamps", "missing"]
theorem scLeast : FnScope nLeast ["front", "lamps"] (defScope sLeast) := ⟨rfl, rfl, rfl, by decide +kernel, rfl, by decide +kernel, by decide +kernel⟩
abbrev sGreater : Stmt := top 25
abbrev nGreater : List Str := ["state", "lamps", "at", "front"]
theorem scGreater : FnScope nGreater ["state"] (defScope sGreater) := ⟨rfl, rfl, rfl, by decide +kernel, rfl, by decide +kernel, by decide +kernel⟩
abbrev sLacking : Stmt := top 26
abbrev nLacking : List Str := ["states", "met", "state", "each"]
theorem scLacking : FnScope nLacking ["states"] (defScope sLacking) := ⟨rfl, rfl, rfl, by decide +kernel, rfl, by decide +kernel, by decide +kernel⟩
abbrev sJudgedIn : Stmt := top 27
abbrev nJudgedIn : List Str := ["states", "broken", "lacking"]
theorem scJudgedIn : FnScope nJudgedIn ["states"] (defScope sJudgedIn) := ⟨rfl, rfl, rfl, by decide +kernel, rfl, by decide +kernel, by decide +kernel⟩
abbrev sNeed : Stmt := top 28
abbrev nNeed : List Str := ["value"]
theorem scNeed : FnScope nNeed ["value"] (defScope sNeed) := ⟨rfl, rfl, rfl, by decide +kernel, rfl, by decide +kernel, by decide +kernel⟩
abbrev sJudgedRound : Stmt := top 29
abbrev nJudgedRound : List Str := ["states"]
theorem scJudgedRound : FnScope nJudgedRound ["states"] (defScope sJudgedRound) := ⟨rfl, rfl, rfl, by decide +kernel, rfl, by decide +kernel, by decide +kernel⟩
abbrev sTells : Stmt := top 31
abbrev nTells : List Str := ["value", "paper", "part"]
theorem scTells : FnScope nTells ["value", "paper"] (defScope sTells) := ⟨rfl, rfl, rfl, by decide +kernel, rfl, by decide +kernel, by decide +kernel⟩
abbrev sShows : Stmt := top 32
abbrev nShows : List Str := ["states", "value"]
theorem scShows : FnScope nShows ["states", "value"] (defScope sShows) := ⟨rfl, rfl, rfl, by decide +kernel, rfl, by decide +kernel, by decide +kernel⟩
abbrev sHeap : Stmt := top 34
abbrev nHeap : List Str := ["_law_script", "_law_cell"]
theorem scHeap : FnScope nHeap ["_law_script"] (defScope sHeap) := ⟨rfl, rfl, rfl, by decide +kernel, rfl, by decide +kernel, by decide +kernel⟩
abbrev sPick : Stmt := top 35
abbrev nPick : List Str := ["_law_heap_here", "_law_many", "_law_rest", "_law_at", "_law_cell", "_law_mixed"]
theorem scPick : FnScope nPick ["_law_heap_here", "_law_many"] (defScope sPick) := ⟨rfl, rfl, rfl, by decide +kernel, rfl, by decide +kernel, by decide +kernel⟩
abbrev sTurned : Stmt := top 37
abbrev nTurned : List Str := ["_law_word_here", "_law_depth", "_law_at", "_law_sign"]
theorem scTurned : FnScope nTurned ["_law_word_here"] (defScope sTurned) := ⟨rfl, rfl, rfl, by decide +kernel, rfl, by decide +kernel, by decide +kernel⟩
abbrev sTree : Stmt := top 38
abbrev nTree : List Str := ["_law_word_here", "_law_found", "_law_turn", "_law_later"]
theorem scTree : FnScope nTree ["_law_word_here"] (defScope sTree) := ⟨rfl, rfl, rfl, by decide +kernel, rfl, by decide +kernel, by decide +kernel⟩
abbrev sRight : Stmt := top 39
abbrev nRight : List Str := ["_law_word_here", "_law_depth", "_law_at", "_law_sign"]
theorem scRight : FnScope nRight ["_law_word_here"] (defScope sRight) := ⟨rfl, rfl, rfl, by decide +kernel, rfl, by decide +kernel, by decide +kernel⟩
abbrev sState : Stmt := top 40
abbrev nState : List Str := ["_law_word_here", "_law_shift", "_law_sign", "_law_row", "_law_lamp"]
theorem scState : FnScope nState ["_law_word_here", "_law_shift", "_law_sign"] (defScope sState) := ⟨rfl, rfl, rfl, by decide +kernel, rfl, by decide +kernel, by decide +kernel⟩
abbrev sWords : Stmt := top 41
abbrev nWords : List Str := ["_law_pairs", "_law_found", "_law_turn", "_law_longer", "_law_row", "_law_ups"]
theorem scWords : FnScope nWords ["_law_pairs"] (defScope sWords) := ⟨rfl, rfl, rfl, by decide +kernel, rfl, by decide +kernel, by decide +kernel⟩
abbrev sSwitched : Stmt := top 42
abbrev nSwitched : List Str := ["_law_state_here", "_law_lamp"]
theorem scSwitched : FnScope nSwitched ["_law_state_here", "_law_lamp"] (defScope sSwitched) := ⟨rfl, rfl, rfl, by decide +kernel, rfl, by decide +kernel, by decide +kernel⟩
abbrev sRound : Stmt := top 43
abbrev nRound : List Str := ["_law_pairs", "_law_words", "_law_chosen", "_law_beside", "_law_above", "_law_word_here", "_law_name", "_law_shift", "_law_low", "_law_near", "_law_once", "_law_far", "_law_its_low", "_law_foot", "_law_up", "_law_found", "_law_here", "_law_step", "_law_both"]
theorem scRound : FnScope nRound ["_law_pairs"] (defScope sRound) := ⟨rfl, rfl, rfl, by decide +kernel, rfl, by decide +kernel, by decide +kernel⟩
abbrev sIsSt : Stmt := top 44
abbrev nIsSt : List Str := ["_law_value", "_law_sign"]
theorem scIsSt : FnScope nIsSt ["_law_value"] (defScope sIsSt) := ⟨rfl, rfl, rfl, by decide +kernel, rfl, by decide +kernel, by decide +kernel⟩
abbrev sJudged : Stmt := top 45
abbrev nJudged : List Str := ["_law_states", "_law_at", "_law_value", "_law_lamp"]
theorem scJudged : FnScope nJudged ["_law_states"] (defScope sJudged) := ⟨rfl, rfl, rfl, by decide +kernel, rfl, by decide +kernel, by decide +kernel⟩
abbrev sTold : Stmt := top 46
abbrev nTold : List Str := ["_law_paper"]
theorem scTold : FnScope nTold ["_law_paper"] (defScope sTold) := ⟨rfl, rfl, rfl, by decide +kernel, rfl, by decide +kernel, by decide +kernel⟩
abbrev sSpoilt : Stmt := top 47
abbrev nSpoilt : List Str := ["_law_heap_here", "_law_states", "_law_way", "_law_at", "_law_wide", "_law_some", "_law_others"]
theorem scSpoilt : FnScope nSpoilt ["_law_heap_here", "_law_states"] (defScope sSpoilt) := ⟨rfl, rfl, rfl, by decide +kernel, rfl, by decide +kernel, by decide +kernel⟩
abbrev sDiffer : Stmt := top 48
abbrev nDiffer : List Str := ["_law_one", "_law_other", "_law_lamp"]
theorem scDiffer : FnScope nDiffer ["_law_one", "_law_other"] (defScope sDiffer) := ⟨rfl, rfl, rfl, by decide +kernel, rfl, by decide +kernel, by decide +kernel⟩
abbrev sDue : Stmt := top 49
abbrev nDue : List Str := ["_law_states", "_law_pairs", "_law_due", "_law_rows", "_law_lamp", "_law_lacking", "_law_row"]
theorem scDue : FnScope nDue ["_law_states", "_law_pairs"] (defScope sDue) := ⟨rfl, rfl, rfl, by decide +kernel, rfl, by decide +kernel, by decide +kernel⟩
abbrev sBent : Stmt := top 50
abbrev nBent : List Str := ["_law_heap_here", "_law_states", "_law_at", "_law_some"]
theorem scBent : FnScope nBent ["_law_heap_here", "_law_states"] (defScope sBent) := ⟨rfl, rfl, rfl, by decide +kernel, rfl, by decide +kernel, by decide +kernel⟩
abbrev sLaw : Stmt := top 51
abbrev nLaw : List Str := ["_law_script", "_law_heap_here", "_law_way", "_law_pairs", "_law_states", "_law_begin", "_law_due", "_law_kept", "_law_told_here", "_law_many", "_law_front", "_law_some", "_law_heard", "_law_paper", "_law_at"]
theorem scLaw : FnScope nLaw ["_law_script"] (defScope sLaw) := ⟨rfl, rfl, rfl, by decide +kernel, rfl, by decide +kernel, by decide +kernel⟩
end Ev
namespace Ev
open PySem L2
/-- what the top has left of names: the built-ins that are not shadowed, the constants -/
structure Bl (mg : Str → Option Value) : Prop where
  len : mg "len" = none
  int : mg "int" = none
  abs : mg "abs" = none
  range : mg "range" = none
  enum : mg "enumerate" = none
  isi : mg "isinstance" = none
  str : mg "str" = none
  list : mg "list" = none
  tuple : mg "tuple" = none
  all : mg "all" = none
  any : mg "any" = none
  max : mg "max" = none
  min : mg "min" = none
  rev : mg "reversed" = none
  bool : mg "bool" = none
  repr : mg "repr" = none
  super : mg "super" = none
  signs : ∃ u, mg "SIGNS" = some u ∧ RelV (.str "01") u
  pairs : ∃ u, mg "MOST_PAIRS" = some u ∧ RelV (.int 200) u
  burns : ∃ u, mg "BURNS" = some u ∧ RelV (.str "1") u
  dark : ∃ u, mg "DARK" = some u ∧ RelV (.str "0") u
  listed : ∃ u, mg "MOST_LISTED" = some u ∧ RelV (.int 5000) u

/-- text in, text out, nothing else touched -/
def spTT (f : List Nat → List Nat) : Sp := fun vs H Q _ => ∃ w, vs = [VT w] ∧ w.length ≤ 1000 ∧ ∀ H', Same H H' → Q (VT (f w)) H'
theorem iteB {b : Bool} {A B : Prop} (h : b = true → A) (h' : b = false → B) : if b = true then A else B := by
  cases b with
  | true => exact h rfl
  | false => exact h' rfl
theorem same_upd {H H1 : Hp} {p : Addr} {o : HO} (s : Same H H1) (n : H1 p = none) : Same H (upd H1 p o) := fun b u e => by
  rw [upd_ne (ne_of_none (s b u e) n)]
  exact s b u e
section
variable {P : Program} {w : World} {K : PySem.W.Frag} {mg : Str → Option Value} {base : Heap}

/-! ### _law_turned -/
def dn (b : Bool) : Int := if b then 1 else -1
/-- the depth behind the first i signs -/
def depthN (l : List Nat) (i : Nat) : Int := (l.take i).foldl (fun d c => d + (if c = 49 then 1 else -1)) 0
theorem depthN_succ {l : List Nat} {i c : Nat} (h : l[i]? = some c) : depthN l (i + 1) = depthN l i + (if c = 49 then 1 else -1) := by
  unfold depthN
  rw [List.take_succ, h]
  simp [List.foldl_append]
theorem closeAt_go {l : List Nat} : ∀ (i : Nat), (∀ j, 0 < j → j ≤ i → depthN l j ≠ 0) → i ≤ l.length → Mi.closeAt 0 l = (Mi.closeAt (depthN l i) (l.drop i)).map (· + i)
  | 0, _, _ => by simp [depthN]
  | i + 1, h, hl => by
    rw [closeAt_go i (fun j h1 h2 => h j h1 (by omega)) (by omega)]
    have hi : i < l.length := by omega
    have e : l.drop i = l[i] :: l.drop (i + 1) := List.drop_eq_getElem_cons hi
    have es := depthN_succ (List.getElem?_eq_getElem hi)
    have hne := h (i + 1) (by omega) (Nat.le_refl _)
    rw [es] at hne
    rw [e]
    show (if depthN l i + (if l[i] = 49 then 1 else -1) = 0 then some 0 else (Mi.closeAt (depthN l i + (if l[i] = 49 then 1 else -1)) (l.drop (i + 1))).map (· + 1)).map (· + i) = _
    rw [if_neg hne, es, Option.map_map]
    congr 1
    funext x
    show x + 1 + i = x + (i + 1)
    omega
theorem closeAt_hit {l : List Nat} {i : Nat} (h : ∀ j, 0 < j → j ≤ i → depthN l j ≠ 0) (hi : i < l.length) (h0 : depthN l (i + 1) = 0) : Mi.closeAt 0 l = some i := by
  rw [closeAt_go i h (by omega)]
  have e : l.drop i = l[i] :: l.drop (i + 1) := List.drop_eq_getElem_cons hi
  have es := depthN_succ (List.getElem?_eq_getElem hi)
  rw [e]
  show (if depthN l i + (if l[i] = 49 then 1 else -1) = 0 then some 0 else _).map (· + i) = _
  rw [if_pos (by rw [← es]; exact h0)]
  show some (0 + i) = some i
  rw [Nat.zero_add]
theorem closeAt_none {l : List Nat} (h : ∀ j, 0 < j → j ≤ l.length → depthN l j ≠ 0) : Mi.closeAt 0 l = none := by
  rw [closeAt_go l.length h (Nat.le_refl _), List.drop_length]
  rfl
theorem sl1000 {l : List Nat} (h : l.length ≤ 1000) : (T l).length ≤ sizeLine := by
  rw [T_len, sizeLine_eq]
  omega
theorem of_dI {a b : Int} (h : decide (V.int a = V.int b) = true) : a = b := by
  have q := of_decide_eq_true h
  injection q
theorem of_dI' {a b : Int} (h : decide (V.int a = V.int b) = false) : a ≠ b := fun e => by
  subst e
  simp at h
theorem cut_le {l : List Nat} (h : l.length ≤ 1000) (lo hi : Option Int) : (cutS (T l) lo hi).length ≤ 1000 := Nat.le_trans (cutS_length _ _ _) (by rw [T_len]; exact h)
theorem small_line {n : Nat} (h : n ≤ 100000) : n ≤ sizeLine := by
  rw [sizeLine_eq]
  omega
theorem len_app (a b : Str) : (a ++ b).length = a.length + b.length := by
  show (a.cps ++ b.cps).size = a.cps.size + b.cps.size
  exact Array.size_append
theorem ok_turned {f : Addr} {fd : FuncData} (F : Fun K "_law_turned" "_law_turned" sTurned f fd) (B : Bl mg) : FnOk P w K mg base CX0 1 f fd ["_law_word_here"] (spTT Mi.turned) := by
  refine F.ok scTurned (fun vs H Q E h => ?_) (fun cdv A outer s H vs Q E hr h => ?_)
  · obtain ⟨z, rfl, _⟩ := h
    rfl
  · obtain ⟨z, rfl, hz, k⟩ := h
    refine ⟨_, pss_cons (ps_set (i := 1) scTurned.nd rfl (Or.inl rfl) pe_int)
      (pss_cons (ps_for PassesOwn.never rfl (pi_enumT (by rfl) B.enum (pa_cons (pv 0) pa_nil)) (pg_tup rfl (pgs_cons (pg_name (i := 2) scTurned.nd rfl (Or.inl rfl)) (pgs_cons (pg_name (i := 3) scTurned.nd rfl (Or.inl rfl)) pgs_nil)))
        (pss_cons (ps_aug (i := 1) scTurned.nd rfl (Or.inl rfl) (pe_ifExp (pt_cmpR op_eq (pv 3) pe_str (nomark _)) pe_int (pe_un un_neg pe_int)) ip_add)
        (pss_one (ps_if (pt_cmpR op_eq (pv 1) pe_int (nomark _))
          (pss_one (ps_ret (pe_op op_add_str (pe_op op_add_str (pe_op op_add_str (pe_slice sl_str (pv 0) (po_some pe_int) (po_some (pv 2))) pe_str) (pe_slice sl_str (pv 0) (po_some (pe_op op_add (pv 2) pe_int)) po_none)) pe_str)))
          pss_nil))))
      (pss_one (ps_ret (pv 0)))), ?_⟩
    refine ⟨_, rfl, T z, rfl, for_it walk_enumS (fun i σ H2 => ∃ a b, σ = [some (VT z), some (.int (depthN z i)), a, b] ∧ Same H H2 ∧ ∀ j, 0 < j → j ≤ i → depthN z j ≠ 0)
      ⟨none, none, rfl, Same.refl H, fun j h1 h2 => absurd h1 (by omega)⟩ (fun _ _ _ _ _ => trivial) ?_ ?_⟩
    · rintro i x σ H1 H2 hi ⟨a, b, rfl, s1, hd⟩ ⟨p, y, rfl, np, rfl, c, hc, rfl⟩
      rw [T_at] at hc
      rw [T_size] at hi
      refine ⟨p, _, rfl, SqT.of upd_same, rfl, _, _, rfl, _, _, rfl, rfl, ?_⟩
      have s2 : Same H (upd H1 p (.tup [.int (i : Nat), .str ⟨#[c]⟩])) := same_upd s1 np
      have es := depthN_succ hc
      have l1 : (Str.ofString "1").length = 1 := by decide +kernel
      have l0 : (Str.ofString "0").length = 1 := by decide +kernel
      refine ⟨_, rfl, _, rfl, rfl, _, rfl, iteB (fun e => ?_) (fun e => ?_)⟩
      · rw [s_one, dec_sign] at e
        rw [if_pos (of_decide_eq_true e)] at es
        refine ⟨_, _, rfl, rfl, _, rfl, rfl, _, rfl, iteB (fun q => ?_) (fun q => ?_)⟩
        · have hcl := closeAt_hit hd hi (es.trans (of_dI q))
          have h1 := cut_le hz (some 1) (some (i : Nat))
          have h2 := cut_le hz (some ((i : Nat) + 1)) none
          refine ⟨_, rfl, 1, rfl, _, rfl, (i : Nat), rfl, T z, rfl, sl1000 hz, _, _, rfl, rfl, ?_, _, rfl, _, rfl, _, _, rfl, rfl, _, rfl, T z, rfl, sl1000 hz, _, _, rfl, rfl, ?_, _, _, rfl, rfl, ?_, ?_⟩
          · exact small_line (by omega)
          · rw [len_app]; exact small_line (by omega)
          · rw [len_app, len_app]; exact small_line (by omega)
          · have e2 : Mi.turned z = ((z.take i).drop 1 ++ [49] ++ z.drop (i + 1)) ++ [48] := by
              unfold Mi.turned
              rw [hcl]
            rw [T_mid z (i := 1) (k := (i : Nat)) (m := 1) (n := i) rfl rfl, T_drop z (n := i + 1) (by omega), s_one, s_zero, T_app, T_app, T_app, ← e2]
            exact k _ s2
        · refine ⟨some (.int (i : Nat)), some (.str ⟨#[c]⟩), ?_, s2, fun j h1 h2 => ?_⟩
          · rw [es]; rfl
          · rcases Nat.lt_or_eq_of_le h2 with h3 | h3
            · exact hd j h1 (by omega)
            · rw [h3, es]
              exact of_dI' q
      · rw [s_one, dec_sign] at e
        rw [if_neg (of_decide_eq_false e)] at es
        refine ⟨1, rfl, _, _, rfl, rfl, _, rfl, rfl, _, rfl, iteB (fun q => ?_) (fun q => ?_)⟩
        · have hcl := closeAt_hit hd hi (es.trans (of_dI q))
          have h1 := cut_le hz (some 1) (some (i : Nat))
          have h2 := cut_le hz (some ((i : Nat) + 1)) none
          refine ⟨_, rfl, 1, rfl, _, rfl, (i : Nat), rfl, T z, rfl, sl1000 hz, _, _, rfl, rfl, ?_, _, rfl, _, rfl, _, _, rfl, rfl, _, rfl, T z, rfl, sl1000 hz, _, _, rfl, rfl, ?_, _, _, rfl, rfl, ?_, ?_⟩
          · exact small_line (by omega)
          · rw [len_app]; exact small_line (by omega)
          · rw [len_app, len_app]; exact small_line (by omega)
          · have e2 : Mi.turned z = ((z.take i).drop 1 ++ [49] ++ z.drop (i + 1)) ++ [48] := by
              unfold Mi.turned
              rw [hcl]
            rw [T_mid z (i := 1) (k := (i : Nat)) (m := 1) (n := i) rfl rfl, T_drop z (n := i + 1) (by omega), s_one, s_zero, T_app, T_app, T_app, ← e2]
            exact k _ s2
        · refine ⟨some (.int (i : Nat)), some (.str ⟨#[c]⟩), ?_, s2, fun j h1 h2 => ?_⟩
          · rw [es]; rfl
          · rcases Nat.lt_or_eq_of_le h2 with h3 | h3
            · exact hd j h1 (by omega)
            · rw [h3, es]
              exact of_dI' q
    · rintro σ H1 ⟨a, b, rfl, s1, hd⟩
      rw [T_size] at hd
      refine ⟨_, rfl, ?_⟩
      have hcl := closeAt_none hd
      have e : Mi.turned z = z := by
        unfold Mi.turned
        rw [hcl]
      rw [e] at k
      exact k _ s1
end
end Ev
namespace Ev
open PySem L2
/-- text in, a new list of texts out -/
def spTL (f : List Nat → List (List Nat)) : Sp := fun vs H Q _ => ∃ w, vs = [VT w] ∧ w.length ≤ 1000 ∧ ∀ H' p, Same H H' → H p = none → H' p = some (.lst ((f w).map VT)) → Q (.ref p) H'
theorem same_updN {H H1 : Hp} {p : Addr} {o : HO} (s : Same H H1) (n : H p = none) : Same H (upd H1 p o) := fun b u e => by
  rw [upd_ne (ne_of_none e n)]
  exact s b u e
theorem closeAt_lt : ∀ {l : List Nat} {d : Int} {a : Nat}, Mi.closeAt d l = some a → a < l.length
  | [], _, _, h => nomatch h
  | c :: r, d, a, h => by
    unfold Mi.closeAt at h
    by_cases q : d + (if c = 49 then 1 else -1) = 0
    · rw [if_pos q] at h
      cases h
      simp
    · rw [if_neg q] at h
      obtain ⟨b, hb, rfl⟩ := Option.map_eq_some_iff.mp h
      have := closeAt_lt hb
      simp
      exact this
theorem closeAt_pos {l : List Nat} {a : Nat} (h : Mi.closeAt 0 l = some a) : 0 < a := by
  cases l with
  | nil => exact nomatch h
  | cons c r =>
    unfold Mi.closeAt at h
    have hne : ¬ (0 : Int) + (if c = 49 then 1 else -1) = 0 := by split <;> omega
    rw [if_neg hne] at h
    obtain ⟨b, hb, rfl⟩ := Option.map_eq_some_iff.mp h
    omega
theorem turned_len (w : List Nat) : (Mi.turned w).length = w.length := by
  unfold Mi.turned
  split
  · rename_i a h
    have h1 := closeAt_lt h
    have h2 := closeAt_pos h
    simp only [List.length_append, List.length_drop, List.length_take, List.length_cons, List.length_nil]
    omega
  · rfl
section
variable {P : Program} {w : World} {K : PySem.W.Frag} {mg : Str → Option Value} {base : Heap}
theorem ok_tree {f fT : Addr} {fd fdT : FuncData} (F : Fun K "_law_tree" "_law_tree" sTree f fd) (B : Bl mg) (FT : Fun K "_law_turned" "_law_turned" sTurned fT fdT) (bT : Binds K fdT ["_law_word_here"] []) (gT : mg "_law_turned" = some (.ref fT)) : FnOk P w K mg base CX0 2 f fd ["_law_word_here"] (spTL Mi.tree) := by
  have GT : FnOk P w K mg base CX0 1 fT fdT ["_law_word_here"] (spTT Mi.turned) := ok_turned FT B
  refine F.ok scTree (fun vs H Q E h => ?_) (fun cdv A outer s H vs Q E hr h => ?_)
  · obtain ⟨z, rfl, _⟩ := h
    rfl
  · obtain ⟨z, rfl, hz, k⟩ := h
    refine ⟨_, pss_cons (ps_set (i := 1) scTree.nd rfl (Or.inl rfl) (pe_lst (pa_cons (pv 0) pa_nil)))
      (pss_cons (ps_for PassesOwn.never rfl (pi_range1 (by rfl) B.range (pa_cons (pe_callB call_len (by rfl) B.len PySem.boot_len (pa_cons (pv 0) pa_nil)) pa_nil)) (pg_name (i := 2) scTree.nd rfl (Or.inl rfl))
        (pss_cons (ps_set (i := 3) scTree.nd rfl (Or.inl rfl) (pe_call GT hr rfl gT FT.kp bT .nil pass0 (pa_cons (pe_ix ix_list (pv 1) (pe_un un_neg pe_int) (fun _ _ => rfl)) pa_nil)))
        (pss_cons (ps_if (pt_cmpR op_eq (pv 3) (pv 0) (nomark _)) (pss_one (ps_ret (pv 1))) pss_nil)
        (pss_one (ps_expr (pe_bm PySem.F.plainAttrs_list PySem.F.slot_list_append PySem.F.type_list_append mt_append (pv 1) (pa_cons (pv 3) pa_nil)))))))
      (pss_one (ps_ret (pv 1)))), ?_⟩
    refine ⟨_, rfl, (by show 1 ≤ sizeLine; decide), fun p np => ?_⟩
    refine ⟨_, rfl, _, _, rfl, ⟨sl1000 hz, rfl⟩, (T z).length, rfl, by omega, by rw [T_len]; omega, ?_⟩
    refine for_range (lo := 0) (n := ((T z).length : Int).toNat) (fun i σ H2 => ∃ a b acc, σ = [some (VT z), some (.ref p), a, b] ∧ Same H H2 ∧ H2 p = some (.lst (acc.map VT)) ∧ Mi.tree z = Mi.treeGo (z.length - i) z acc ∧ acc ≠ [] ∧ (∀ l ∈ acc, l.length = z.length) ∧ acc.length ≤ i + 1)
      ⟨none, none, [z], rfl, same_upd (Same.refl H) np, upd_same, rfl, by simp, by simp, by simp⟩ ?_ ?_
    · rintro i σ H2 hi ⟨a, b, acc, rfl, s2, hp, ht, hne, hl, hlen⟩
      rw [Int.toNat_natCast, T_len] at hi
      obtain ⟨l, x, rfl⟩ : ∃ l x, acc = l ++ [x] := ⟨acc.dropLast, acc.getLast hne, (List.dropLast_concat_getLast hne).symm⟩
      have hx : x.length = z.length := hl x (by simp)
      refine ⟨_, rfl, 1, rfl, _, _, _, _, rfl, rfl, SqL.of hp, by rw [List.map_append]; exact atI_last _ _, x, rfl, by omega, fun H3 s3 => ?_⟩
      have e1 : Mi.tree z = if Mi.turned x = z then l ++ [x] else Mi.treeGo (z.length - (i + 1)) z (l ++ [x] ++ [Mi.turned x]) := by
        rw [ht]
        have e0 : z.length - i = (z.length - (i + 1)) + 1 := by omega
        rw [e0]
        show (if Mi.turned ((l ++ [x]).getLastD []) = z then l ++ [x] else _) = _
        simp
      refine ⟨_, rfl, _, rfl, rfl, _, rfl, iteB (fun q => ?_) (fun q => ?_)⟩
      · rw [show decide (VT (Mi.turned x) = VT z) = decide (Mi.turned x = z) from dec_T _ _] at q
        rw [if_pos (of_decide_eq_true q)] at e1
        refine ⟨_, rfl, ?_⟩
        refine k _ p (fun b o e => s3 b o (s2 b o e)) np ?_
        rw [e1]
        exact s3 _ _ hp
      · rw [show decide (VT (Mi.turned x) = VT z) = decide (Mi.turned x = z) from dec_T _ _] at q
        rw [if_neg (of_decide_eq_false q)] at e1
        have hp3 := s3 _ _ hp
        refine ⟨_, rfl, .inl ⟨rfl, _, SqL.of hp3⟩, _, rfl, p, _, _, rfl, rfl, hp3, small1000 ?_, ?_⟩
        · rw [List.length_map]; omega
        · refine ⟨_, _, l ++ [x] ++ [Mi.turned x], rfl, same_updN (fun b o e => s3 b o (s2 b o e)) np, ?_, e1, by simp, fun m hm => ?_, ?_⟩
          · rw [upd_same]
            simp
          · rcases List.mem_append.mp hm with h | h
            · exact hl m h
            · rw [List.mem_singleton.mp h, turned_len]
              exact hx
          · rw [List.length_append, List.length_singleton]
            omega
    · rintro σ H2 ⟨a, b, acc, rfl, s2, hp, ht, hne, hl, hlen⟩
      refine ⟨_, rfl, ?_⟩
      refine k _ p s2 np ?_
      rw [ht, Int.toNat_natCast, T_len, Nat.sub_self]
      exact hp
end
end Ev
namespace Ev
open PySem L2 PyProof.Rows
/-! texts joined, counted -/
theorem join_signs (l : List Nat) : Txt.join (Str.ofString "") (l.map fun c => (⟨#[c]⟩ : Str)) = T l := by
  have e : ∀ l : List Nat, Str.join (T []) (l.map fun c => (⟨#[c]⟩ : Str)) = T l := fun l => by
    induction l with
    | nil => rfl
    | cons c r ih =>
      cases r with
      | nil => rfl
      | cons d r =>
        show T [c] ++ T [] ++ Str.join (T []) ((d :: r).map fun c => (⟨#[c]⟩ : Str)) = T (c :: d :: r)
        rw [ih, T_app, T_app]
        rfl
  unfold Txt.join
  rw [s_empty, StrLaws.glued_eq_join]
  exact e l
theorem count_sign (l : List Nat) (c : Nat) : Txt.count (T l) (T [c]) = ((l.count c : Nat) : Int) := by
  have h := PyProof.Rows.count_is (T l) c
  have e : ∀ l : List Nat, (l.map fun n => if decide (n = c) = true then (1 : Int) else 0).sum = ((l.count c : Nat) : Int) := fun l => by
    induction l with
    | nil => rfl
    | cons n r ih =>
      rw [List.map_cons, List.sum_cons, ih, List.count_cons]
      by_cases hn : n = c
      · subst hn
        simp
        omega
      · simp [hn]
  exact h.trans ((countIn_signs_sum c _).trans (e l))
theorem tyes_ite {A B : Hp → Prop} {σ : L2.St} {H : Hp} (h : A H) : tYes σ H (fun b H3 => if b = true then A H3 else B H3) := by
  show if true = true then A H else B H
  rw [if_pos rfl]
  exact h
def spTB (f : List Nat → Bool) : Sp := fun vs H Q _ => ∃ w, vs = [VT w] ∧ w.length ≤ 1000 ∧ ∀ H', Same H H' → Q (.bl (f w)) H'
theorem s_110 : Str.ofString "110" = T [49, 49, 48] := by decide +kernel
section
variable {P : Program} {w : World} {K : PySem.W.Frag} {mg : Str → Option Value} {base : Heap}
theorem ok_right {f : Addr} {fd : FuncData} (F : Fun K "_law_is_right" "_law_is_right" sRight f fd) (B : Bl mg) : FnOk P w K mg base CX0 1 f fd ["_law_word_here"] (spTB Mi.isRight) := by
  refine F.ok scRight (fun vs H Q E h => ?_) (fun cdv A outer s H vs Q E hr h => ?_)
  · obtain ⟨z, rfl, _⟩ := h
    rfl
  · obtain ⟨z, rfl, hz, k⟩ := h
    refine ⟨_, pss_cons (ps_set (i := 1) scRight.nd rfl (Or.inl rfl) pe_int)
      (pss_cons (ps_for PassesOwn.never rfl (pi_enumT (by rfl) B.enum (pa_cons (pv 0) pa_nil)) (pg_tup rfl (pgs_cons (pg_name (i := 2) scRight.nd rfl (Or.inl rfl)) (pgs_cons (pg_name (i := 3) scRight.nd rfl (Or.inl rfl)) pgs_nil)))
        (pss_cons (ps_aug (i := 1) scRight.nd rfl (Or.inl rfl) (pe_ifExp (pt_cmpR op_eq (pv 3) pe_str (nomark _)) pe_int (pe_un un_neg pe_int)) ip_add)
        (pss_one (ps_if (pt_cmpR op_eq (pv 1) pe_int (nomark _))
          (pss_one (ps_ret (pe_and (pe_cmpR op_eq (pe_slice sl_str (pv 0) po_none (po_some pe_int)) pe_str (nomark _)) (pe_one (pe_cmpR op_le (pe_op op_add (pv 2) pe_int) (pe_op op_add (pe_op op_fdiv (pe_callB call_len (by rfl) B.len PySem.boot_len (pa_cons (pv 0) pa_nil)) pe_int) pe_int) (nomark _))))))
          pss_nil))))
      (pss_one (ps_ret pe_bl))), ?_⟩
    refine ⟨_, rfl, T z, rfl, for_it walk_enumS (fun i σ H2 => ∃ a b, σ = [some (VT z), some (.int (depthN z i)), a, b] ∧ Same H H2 ∧ ∀ j, 0 < j → j ≤ i → depthN z j ≠ 0)
      ⟨none, none, rfl, Same.refl H, fun j h1 h2 => absurd h1 (by omega)⟩ (fun _ _ _ _ _ => trivial) ?_ ?_⟩
    · rintro i x σ H1 H2 hi ⟨a, b, rfl, s1, hd⟩ ⟨p, y, rfl, np, rfl, c, hc, rfl⟩
      rw [T_at] at hc
      rw [T_size] at hi
      refine ⟨p, _, rfl, SqT.of upd_same, rfl, _, _, rfl, _, _, rfl, rfl, ?_⟩
      have s2 : Same H (upd H1 p (.tup [.int (i : Nat), .str ⟨#[c]⟩])) := same_upd s1 np
      have es := depthN_succ hc
      refine ⟨_, rfl, _, rfl, rfl, _, rfl, iteB (fun e => ?_) (fun e => ?_)⟩
      · rw [s_one, dec_sign] at e
        rw [if_pos (of_decide_eq_true e)] at es
        refine ⟨_, _, rfl, rfl, _, rfl, rfl, _, rfl, iteB (fun q => ?_) (fun q => ?_)⟩
        · have hcl := closeAt_hit hd hi (es.trans (of_dI q))
          have e2 : Mi.isRight z = (decide (z.take 3 = [49, 49, 48]) && decide (i + 1 ≤ z.length / 2 + 1)) := by
            unfold Mi.isRight
            rw [hcl]
          refine ⟨_, rfl, 3, rfl, T z, rfl, sl1000 hz, rfl, _, rfl, iteB (fun q1 => ?_) (fun q1 => ?_)⟩
          · rw [T_take z (k := 3) (n := 3) rfl, s_110, dec_T] at q1
            refine ⟨_, rfl, _, _, rfl, rfl, _, rfl, _, _, rfl, ⟨sl1000 hz, rfl⟩, _, _, rfl, rfl, ⟨by decide, by decide⟩, _, _, rfl, rfl, _, _, rfl, rfl, ?_⟩
            have e3 : decide (((i : Nat) : Int) + 1 ≤ (((T z).length : Nat) : Int) / 2 + 1) = Mi.isRight z := by
              rw [e2, q1, Bool.true_and, T_len]
              by_cases h : i + 1 ≤ z.length / 2 + 1
              · rw [decide_eq_true h, decide_eq_true (by omega)]
              · rw [decide_eq_false h, decide_eq_false (by omega)]
            have kk := k _ s2
            rw [← e3] at kk
            exact kk
          · rw [T_take z (k := 3) (n := 3) rfl, s_110, dec_T] at q1
            rw [q1, Bool.false_and] at e2
            rw [e2] at k
            exact k _ s2
        · refine ⟨some (.int (i : Nat)), some (.str ⟨#[c]⟩), ?_, s2, fun j h1 h2 => ?_⟩
          · rw [es]; rfl
          · rcases Nat.lt_or_eq_of_le h2 with h3 | h3
            · exact hd j h1 (by omega)
            · rw [h3, es]
              exact of_dI' q
      · rw [s_one, dec_sign] at e
        rw [if_neg (of_decide_eq_false e)] at es
        refine ⟨1, rfl, _, _, rfl, rfl, _, rfl, rfl, _, rfl, iteB (fun q => ?_) (fun q => ?_)⟩
        · have hcl := closeAt_hit hd hi (es.trans (of_dI q))
          have e2 : Mi.isRight z = (decide (z.take 3 = [49, 49, 48]) && decide (i + 1 ≤ z.length / 2 + 1)) := by
            unfold Mi.isRight
            rw [hcl]
          refine ⟨_, rfl, 3, rfl, T z, rfl, sl1000 hz, rfl, _, rfl, iteB (fun q1 => ?_) (fun q1 => ?_)⟩
          · rw [T_take z (k := 3) (n := 3) rfl, s_110, dec_T] at q1
            refine ⟨_, rfl, _, _, rfl, rfl, _, rfl, _, _, rfl, ⟨sl1000 hz, rfl⟩, _, _, rfl, rfl, ⟨by decide, by decide⟩, _, _, rfl, rfl, _, _, rfl, rfl, ?_⟩
            have e3 : decide (((i : Nat) : Int) + 1 ≤ (((T z).length : Nat) : Int) / 2 + 1) = Mi.isRight z := by
              rw [e2, q1, Bool.true_and, T_len]
              by_cases h : i + 1 ≤ z.length / 2 + 1
              · rw [decide_eq_true h, decide_eq_true (by omega)]
              · rw [decide_eq_false h, decide_eq_false (by omega)]
            have kk := k _ s2
            rw [← e3] at kk
            exact kk
          · rw [T_take z (k := 3) (n := 3) rfl, s_110, dec_T] at q1
            rw [q1, Bool.false_and] at e2
            rw [e2] at k
            exact k _ s2
        · refine ⟨some (.int (i : Nat)), some (.str ⟨#[c]⟩), ?_, s2, fun j h1 h2 => ?_⟩
          · rw [es]; rfl
          · rcases Nat.lt_or_eq_of_le h2 with h3 | h3
            · exact hd j h1 (by omega)
            · rw [h3, es]
              exact of_dI' q
    · rintro σ H1 ⟨a, b, rfl, s1, hd⟩
      rw [T_size] at hd
      have hcl := closeAt_none hd
      have e : Mi.isRight z = false := by
        unfold Mi.isRight
        rw [hcl]
      rw [e] at k
      exact k _ s1

/-! ### _law_switched -/
def spSw : Sp := fun vs H Q _ => ∃ (z : List Nat) (l : Nat), vs = [VT z, .int (l : Nat)] ∧ z.length ≤ 1000 ∧ l < z.length ∧ ∀ H', Same H H' → Q (VT (Mi.switched z l)) H'
theorem atI_codes {z : List Nat} {i : Int} {l c : Nat} (e : i = (l : Nat)) (h : z[l]? = some c) : atI (T z).cps.toList i = some c := by
  rw [e, T_tl]
  exact atI_nat h
theorem getD_at {z : List Nat} {l c : Nat} (h : z[l]? = some c) : z.getD l 0 = c := by simp [h]
theorem ok_switched {f : Addr} {fd : FuncData} (F : Fun K "_law_switched" "_law_switched" sSwitched f fd) : FnOk P w K mg base CX0 1 f fd ["_law_state_here", "_law_lamp"] spSw := by
  refine F.ok scSwitched (fun vs H Q E h => ?_) (fun cdv A outer s H vs Q E hr h => ?_)
  · obtain ⟨z, l, rfl, _⟩ := h
    rfl
  · obtain ⟨z, l, rfl, hz, hl, k⟩ := h
    refine ⟨_, pss_one (ps_ret (pe_op op_add_str (pe_op op_add_str (pe_slice sl_str (pv 0) po_none (po_some (pv 1))) (pe_ifExp (pt_cmpR op_eq (pe_ix ix_str (pv 0) (pv 1) (fun _ _ => rfl)) pe_str (nomark _)) pe_str pe_str)) (pe_slice sl_str (pv 0) (po_some (pe_op op_add (pv 1) pe_int)) po_none))), ?_⟩
    have hc := List.getElem?_eq_getElem hl
    have h1 := cut_le hz none (some (l : Nat))
    have h2 := cut_le hz (some ((l : Nat) + 1)) none
    have l1 : (Str.ofString "1").length = 1 := by decide +kernel
    have l0 : (Str.ofString "0").length = 1 := by decide +kernel
    have kk := k H (Same.refl H)
    refine ⟨_, rfl, _, rfl, (l : Nat), rfl, T z, rfl, sl1000 hz, _, rfl, _, rfl, T z, _, _, rfl, rfl, sl1000 hz, atI_codes rfl hc, rfl, _, rfl, iteB (fun e => ?_) (fun e => ?_)⟩
    · rw [s_one, dec_sign] at e
      refine ⟨_, _, rfl, rfl, ?_, _, rfl, _, rfl, _, _, rfl, rfl, _, rfl, T z, rfl, sl1000 hz, _, _, rfl, rfl, ?_, ?_⟩
      · exact small_line (by omega)
      · rw [len_app]; exact small_line (by omega)
      · have e2 : Mi.switched z l = z.take l ++ [48] ++ z.drop (l + 1) := by
          unfold Mi.switched
          rw [getD_at hc, if_pos (of_decide_eq_true e)]
        unfold VT at kk
        rw [e2, ← T_app, ← T_app, ← s_zero, ← T_take z (k := (l : Nat)) (n := l) rfl, ← T_drop z (k := (l : Nat) + 1) (n := l + 1) (by omega)] at kk
        exact kk
    · rw [s_one, dec_sign] at e
      refine ⟨_, _, rfl, rfl, ?_, _, rfl, _, rfl, _, _, rfl, rfl, _, rfl, T z, rfl, sl1000 hz, _, _, rfl, rfl, ?_, ?_⟩
      · exact small_line (by omega)
      · rw [len_app]; exact small_line (by omega)
      · have e2 : Mi.switched z l = z.take l ++ [49] ++ z.drop (l + 1) := by
          unfold Mi.switched
          rw [getD_at hc, if_neg (of_decide_eq_false e)]
        unfold VT at kk
        rw [e2, ← T_app, ← T_app, ← s_one, ← T_take z (k := (l : Nat)) (n := l) rfl, ← T_drop z (k := (l : Nat) + 1) (n := l + 1) (by omega)] at kk
        exact kk

/-! ### _law_state -/
def spState : Sp := fun vs H Q _ => ∃ (z : List Nat) (sh : Int) (sg : List Nat), vs = [VT z, .int sh, VT sg] ∧ z.length ≤ 500 ∧ sg.length ≤ 1 ∧ ∀ H', Same H H' → Q (VT (Mi.stateM z sh sg)) H'
theorem ok_state {f : Addr} {fd : FuncData} (F : Fun K "_law_state" "_law_state" sState f fd) (B : Bl mg) : FnOk P w K mg base CX0 1 f fd ["_law_word_here", "_law_shift", "_law_sign"] spState := by
  refine F.ok scState (fun vs H Q E h => ?_) (fun cdv A outer s H vs Q E hr h => ?_)
  · obtain ⟨z, sh, sg, rfl, _⟩ := h
    rfl
  · obtain ⟨z, sh, sg, rfl, hz, hs, k⟩ := h
    refine ⟨_, pss_cons (ps_set (i := 3) scState.nd rfl (Or.inr rfl) (pe_op op_add_str (pv 0) (pv 2)))
      (pss_one (ps_ret (pe_join pe_str (pe_lc (own := [("_law_lamp", 4)]) (g := gName 4) (tt := tYes) rfl scState.nd (pi_range1 (by rfl) B.range (pa_cons (pe_callB call_len (by rfl) B.len PySem.boot_len (pa_cons (pv 3) pa_nil)) pa_nil))
        (blkOk_by (own := [("_law_lamp", 4)]) (N := nState) (sc := defScope sState) (by decide +kernel)) (fun _ _ _ _ _ => pg_name (i := 4) scState.nd rfl (Or.inl rfl)) (fun _ _ _ _ _ => pts_nil)
        (fun _ _ _ _ _ => pe_ix ix_str (pv 3) (pe_op op_mod (pe_callTy call_int1 (by rfl) B.int (by decide +kernel) (pa_cons (pe_op op_sub (pv 4) (pv 1)) pa_nil)) (pe_callB call_len_str (by rfl) B.len PySem.boot_len (pa_cons (pv 3) pa_nil))) (fun _ _ => rfl)))))), ?_⟩
    have hrow : (z ++ sg).length ≤ 1000 := by
      rw [List.length_append]
      omega
    refine ⟨_, rfl, _, rfl, _, _, rfl, rfl, by rw [T_len, T_len]; exact small_line (by omega), ?_⟩
    rw [T_app]
    generalize er : z ++ sg = row at hrow
    have hst : Mi.stateM z sh sg = (List.range row.length).map fun (l : Nat) => row.getD (((l : Int) - sh) % (row.length : Nat)).toNat 0 := by
      unfold Mi.stateM
      rw [er]
    refine ⟨⟨_, rfl⟩, _, rfl, _, _, rfl, ⟨sl1000 hrow, rfl⟩, _, rfl, by rw [T_len]; omega, by rw [T_len]; omega, fun D hD => ?_⟩
    refine lc_range (lo := 0) (n := (((T row).length : Nat) : Int).toNat) (fun i H2 => Same H H2 ∧ H2 D = some (.lst (((List.range i).map fun (l : Nat) => row.getD (((l : Int) - sh) % (row.length : Nat)).toNat 0).map fun c => V.str ⟨#[c]⟩)))
      ⟨same_upd (Same.refl H) hD, upd_same⟩ ?_ ?_
    · rintro i H2 hi ⟨s2, hd⟩
      rw [Int.toNat_natCast, T_len] at hi
      have hpos : (0 : Int) < (((T row).length : Nat) : Int) := by rw [T_len]; omega
      have hm1 := Int.emod_nonneg ((i : Int) - sh) (b := (row.length : Nat)) (by omega)
      have hm2 := Int.emod_lt_of_pos ((i : Int) - sh) (b := (row.length : Nat)) (by omega)
      have hlt : (((i : Int) - sh) % (row.length : Nat)).toNat < row.length := by omega
      have hc := List.getElem?_eq_getElem hlt
      refine ⟨rfl, tyes_ite ?_⟩
      refine ⟨_, rfl, _, rfl, _, rfl, _, _, rfl, rfl, .inl ⟨_, rfl, _, rfl, _, rfl, sl1000 hrow, _, _, rfl, rfl, hpos, T row, _, _, rfl, rfl, sl1000 hrow, atI_codes (l := (((i : Int) - sh) % (row.length : Nat)).toNat) ?_ hc, _, hd, ?_, same_updN s2 hD, ?_⟩⟩
      · show (0 + (i : Int) - sh) % (((T row).length : Nat) : Int) = _
        rw [Int.zero_add, T_len]
        omega
      · rw [List.length_map, List.length_map, List.length_range]
        exact small1000 (by omega)
      · rw [upd_same, List.range_succ, List.map_append, List.map_append]
        congr 2
        show _ = _ ++ [V.str ⟨#[row.getD (((i : Int) - sh) % (row.length : Nat)).toNat 0]⟩]
        rw [getD_at hc]
    · rintro H2 ⟨s2, hd⟩
      rw [Int.toNat_natCast, T_len, ← hst] at hd
      have hl : (Mi.stateM z sh sg).length = row.length := by
        rw [hst, List.length_map, List.length_range]
      have e : ((Mi.stateM z sh sg).map fun c => V.str ⟨#[c]⟩) = ((Mi.stateM z sh sg).map fun c => (⟨#[c]⟩ : Str)).map V.str := by
        rw [List.map_map]
        rfl
      rw [e] at hd
      refine ⟨_, D, _, rfl, rfl, .inl (SqL.of hd), ?_, ?_⟩
      · have l0 : (Str.ofString "").length = 0 := by decide +kernel
        have e1 : ∀ l : List Nat, ((l.map fun c => (⟨#[c]⟩ : Str)).map (·.length)).sum = l.length := fun l => by
          induction l with
          | nil => rfl
          | cons a r ih =>
            rw [List.map_cons, List.map_cons, List.sum_cons, ih, List.length_cons]
            show 1 + r.length = _
            omega
        rw [l0, e1]
        omega
      · rw [join_signs]
        exact k _ s2
end
end Ev
namespace Ev
open PySem L2 PyProof.Rows
/-- pairs in, a new list of texts out -/
def spWords : Sp := fun vs H Q _ => ∃ p : Nat, vs = [.int (p : Nat)] ∧ p ≤ 4 ∧ ∀ H' q, Same H H' → H q = none → H' q = some (.lst ((Mi.allWords p).map VT)) → Q (.ref q) H'
theorem take_flat {α β : Type} (f : α → List β) {l : List α} {j : Nat} {x : α} (h : l[j]? = some x) : (l.take (j + 1)).flatMap f = (l.take j).flatMap f ++ f x := by
  rw [List.take_succ, h]
  simp
theorem wordsRow_len (p : Nat) (r : List Nat) : (Mi.wordsRow p r).length ≤ 2 := by
  unfold Mi.wordsRow
  rw [List.length_append]
  have h1 : (if 2 * r.count 49 > r.length then [r ++ [48]] else []).length ≤ 1 := by split <;> simp
  have h2 : (if r.count 49 < p then [r ++ [49]] else []).length ≤ 1 := by split <;> simp
  omega
theorem flat_len (p : Nat) : ∀ l : List (List Nat), (l.flatMap (Mi.wordsRow p)).length ≤ 2 * l.length
  | [] => by simp
  | a :: r => by
    have h1 := wordsRow_len p a
    have h2 := flat_len p r
    rw [List.flatMap_cons, List.length_append, List.length_cons]
    omega
theorem wordsRow_mem {p : Nat} {r x : List Nat} (h : x ∈ Mi.wordsRow p r) : x.length = r.length + 1 := by
  unfold Mi.wordsRow at h
  rcases List.mem_append.mp h with h | h
  · split at h
    · rw [List.mem_singleton.mp h]; simp
    · cases h
  · split at h
    · rw [List.mem_singleton.mp h]; simp
    · cases h
section
variable {P : Program} {w : World} {K : PySem.W.Frag} {mg : Str → Option Value} {base : Heap}
theorem ok_words {f : Addr} {fd : FuncData} (F : Fun K "_law_all_words" "_law_all_words" sWords f fd) (B : Bl mg) : FnOk P w K mg base CX0 1 f fd ["_law_pairs"] spWords := by
  refine F.ok scWords (fun vs H Q E h => ?_) (fun cdv A outer s H vs Q E hr h => ?_)
  · obtain ⟨z, rfl, _⟩ := h
    rfl
  · obtain ⟨p, rfl, hp, k⟩ := h
    refine ⟨_, pss_cons (ps_set (i := 1) scWords.nd rfl (Or.inl rfl) (pe_lst (pa_cons pe_str pa_nil)))
      (pss_cons (ps_for PassesOwn.never rfl (pi_range1 (by rfl) B.range (pa_cons (pe_op op_mul pe_int (pv 0)) pa_nil)) (pg_name (i := 2) scWords.nd rfl (Or.inl rfl))
        (pss_cons (ps_set (i := 3) scWords.nd rfl (Or.inl rfl) (pe_lst pa_nil))
        (pss_cons (ps_for PassesOwn.never rfl (pi_list (pv 1)) (pg_name (i := 4) scWords.nd rfl (Or.inl rfl))
          (pss_cons (ps_set (i := 5) scWords.nd rfl (Or.inl rfl) (pe_m1 PySem.F.slot_str_count PySem.F.type_str_count mt_count (pv 4) pe_str))
          (pss_cons (ps_if (pt_cmpR op_gt (pe_op op_mul pe_int (pv 5)) (pe_callB call_len_str (by rfl) B.len PySem.boot_len (pa_cons (pv 4) pa_nil)) (nomark _))
            (pss_one (ps_expr (pe_bm PySem.F.plainAttrs_list PySem.F.slot_list_append PySem.F.type_list_append mt_append (pv 3) (pa_cons (pe_op op_add_str (pv 4) pe_str) pa_nil)))) pss_nil)
          (pss_one (ps_if (pt_cmpR op_lt (pv 5) (pv 0) (nomark _))
            (pss_one (ps_expr (pe_bm PySem.F.plainAttrs_list PySem.F.slot_list_append PySem.F.type_list_append mt_append (pv 3) (pa_cons (pe_op op_add_str (pv 4) pe_str) pa_nil)))) pss_nil)))))
        (pss_one (ps_set (i := 1) scWords.nd rfl (Or.inl rfl) (pv 3))))))
      (pss_one (ps_ret (pv 1)))), ?_⟩
    have l1 : (Str.ofString "1").length = 1 := by decide +kernel
    have l0 : (Str.ofString "0").length = 1 := by decide +kernel
    refine ⟨(by show 1 ≤ sizeLine; decide), fun q0 nq0 => ?_⟩
    refine ⟨_, rfl, _, _, rfl, rfl, .inl ⟨by decide, by decide⟩, _, rfl, by omega, by omega, ?_⟩
    refine for_range (lo := 0) (n := (2 * (p : Int)).toNat) (fun i σ H2 => ∃ q fs a b c d, σ = [some (.int (p : Nat)), some (.ref q), a, b, c, d] ∧ Same H H2 ∧ H q = none ∧ H2 q = some (.lst (fs.map VT)) ∧
        Mi.allWords p = Mi.wordsGo (2 * p - i) p fs ∧ fs.length ≤ 2 ^ i ∧ ∀ r ∈ fs, r.length = i)
      ⟨q0, [[]], none, none, none, none, rfl, same_upd (Same.refl H) nq0, nq0, by rw [upd_same, s_empty]; rfl, rfl, by simp, by simp⟩ ?_ ?_
    · rintro i σ H2 hi ⟨q, fs, a, b, c, d, rfl, s2, nq, hq, hw, hl, hr'⟩
      have hi2 : i < 2 * p := by omega
      have hpow : (2 : Nat) ^ i ≤ 2 ^ 8 := Nat.pow_le_pow_right (by decide) (by omega)
      refine ⟨Nat.zero_le _, fun l nl2 => ?_⟩
      have nl : H l = none := s2.free nl2
      have nql : q ≠ l := ne_of_none hq nl2
      have s3 := same_upd (o := .lst []) s2 nl2
      have hq3 : upd H2 l (.lst []) q = some (.lst (fs.map VT)) := by rw [upd_ne nql]; exact hq
      refine ⟨_, rfl, q, rfl, ⟨_, SqL.of hq3⟩, for_list (K := K) (a := q) (xs := fs.map VT) (fun j σ H3 => ∃ c d, σ = [some (.int (p : Nat)), some (.ref q), some (.int (0 + (i : Int))), some (.ref l), c, d] ∧ Same H H3 ∧ H3 q = some (.lst (fs.map VT)) ∧
          H3 l = some (.lst (((fs.take j).flatMap (Mi.wordsRow p)).map VT)))
        ⟨c, d, rfl, s3, hq3, by rw [upd_same]; rfl⟩ (fun j σ H3 _ ⟨_, _, _, _, h, _⟩ => SqL.of h) ?_ ?_⟩
      · rintro j x σ H3 hj ⟨c, d, rfl, s4, hq4, hl4⟩
        have hj2 : j < fs.length := by
          have := (List.getElem?_eq_some_iff.mp hj).1
          rwa [List.length_map] at this
        obtain ⟨r, hrj, rfl⟩ : ∃ r, fs[j]? = some r ∧ x = VT r := by
          rw [List.getElem?_map, List.getElem?_eq_getElem hj2] at hj
          exact ⟨fs[j], List.getElem?_eq_getElem hj2, (Option.some.inj hj).symm⟩
        have hrl : r.length = i := hr' r (List.mem_of_getElem? hrj)
        have hflen := flat_len p (fs.take j)
        have htake : (fs.take j).length ≤ 256 := by
          rw [List.length_take]
          omega
        have hrt : (T r).length ≤ 8 := by rw [T_len]; omega
        have hcnt : Txt.count (T r) (Str.ofString "1") = ((r.count 49 : Nat) : Int) := by rw [s_one, count_sign]
        have hcl := List.count_le_length (a := 49) (l := r)
        have hstep := take_flat (Mi.wordsRow p) hrj
        refine ⟨_, rfl, ⟨_, rfl⟩, _, _, rfl, rfl, ?_⟩
        rw [hcnt]
        refine ⟨_, rfl, _, _, rfl, rfl, .inl ⟨by decide, by decide⟩, _, rfl, _, rfl, small_line (by omega), _, _, rfl, rfl, _, rfl, ?_⟩
        have g1 : decide ((((T r).length : Nat) : Int) < 2 * ((r.count 49 : Nat) : Int)) = decide (2 * r.count 49 > r.length) := by
          rw [T_len]
          by_cases h : 2 * r.count 49 > r.length
          · rw [decide_eq_true h, decide_eq_true (by omega)]
          · rw [decide_eq_false h, decide_eq_false (by omega)]
        have g2 : decide (((r.count 49 : Nat) : Int) < (p : Nat)) = decide (r.count 49 < p) := by
          by_cases h : r.count 49 < p
          · rw [decide_eq_true h, decide_eq_true (by omega)]
          · rw [decide_eq_false h, decide_eq_false (by omega)]
        have g0 : (((fs.take j).flatMap (Mi.wordsRow p)).map VT).length ≤ 512 := by
          rw [List.length_map]
          omega
        have hrow : Mi.wordsRow p r = (if 2 * r.count 49 > r.length then [r ++ [48]] else []) ++ (if r.count 49 < p then [r ++ [49]] else []) := rfl
        rw [hrow] at hstep
        refine iteB (fun q1 => ?_) (fun q1 => ?_)
        · have q1' : decide ((((T r).length : Nat) : Int) < 2 * ((r.count 49 : Nat) : Int)) = true := q1
          rw [g1] at q1'
          rw [if_pos (of_decide_eq_true q1')] at hstep
          refine ⟨_, rfl, .inl ⟨rfl, _, SqL.of hl4⟩, _, rfl, _, _, rfl, rfl, by rw [l0]; exact small_line (by omega), l, _, _, rfl, rfl, hl4, small1000 (by omega), ?_⟩
          have s5 := same_updN (o := .lst (((fs.take j).flatMap (Mi.wordsRow p)).map VT ++ [.str (T r ++ Str.ofString "0")])) s4 nl
          have hq5 : upd H3 l (.lst (((fs.take j).flatMap (Mi.wordsRow p)).map VT ++ [.str (T r ++ Str.ofString "0")])) q = some (.lst (fs.map VT)) := by rw [upd_ne nql]; exact hq4
          refine ⟨_, rfl, _, rfl, _, _, rfl, rfl, _, rfl, iteB (fun q2 => ?_) (fun q2 => ?_)⟩
          · have q2' : decide (((r.count 49 : Nat) : Int) < (p : Nat)) = true := q2
            rw [g2] at q2'
            rw [if_pos (of_decide_eq_true q2')] at hstep
            refine ⟨_, rfl, .inl ⟨rfl, _, SqL.of upd_same⟩, _, rfl, _, _, rfl, rfl, by rw [l1]; exact small_line (by omega), l, _, _, rfl, rfl, upd_same, small1000 (by rw [List.length_append, List.length_singleton]; omega), ?_⟩
            refine ⟨_, _, rfl, same_updN s5 nl, by rw [upd_ne nql]; exact hq5, ?_⟩
            rw [upd_same, hstep, s_one, T_app]
            first
              | (simp [VT]; done)
              | (rw [s_zero, T_app]; simp [VT])
          · have q2' : decide (((r.count 49 : Nat) : Int) < (p : Nat)) = false := q2
            rw [g2] at q2'
            rw [if_neg (of_decide_eq_false q2')] at hstep
            refine ⟨_, _, rfl, s5, hq5, ?_⟩
            rw [hstep]
            rw [upd_same, s_zero, T_app]
            simp [VT]
        · have q1' : decide ((((T r).length : Nat) : Int) < 2 * ((r.count 49 : Nat) : Int)) = false := q1
          rw [g1] at q1'
          rw [if_neg (of_decide_eq_false q1')] at hstep
          refine ⟨_, rfl, _, rfl, _, _, rfl, rfl, _, rfl, iteB (fun q2 => ?_) (fun q2 => ?_)⟩
          · have q2' : decide (((r.count 49 : Nat) : Int) < (p : Nat)) = true := q2
            rw [g2] at q2'
            rw [if_pos (of_decide_eq_true q2')] at hstep
            refine ⟨_, rfl, .inl ⟨rfl, _, SqL.of hl4⟩, _, rfl, _, _, rfl, rfl, by rw [l1]; exact small_line (by omega), l, _, _, rfl, rfl, hl4, small1000 (by omega), ?_⟩
            refine ⟨_, _, rfl, same_updN s4 nl, by rw [upd_ne nql]; exact hq4, ?_⟩
            rw [upd_same, hstep, s_one, T_app]
            first
              | (simp [VT]; done)
              | (rw [s_zero, T_app]; simp [VT])
          · have q2' : decide (((r.count 49 : Nat) : Int) < (p : Nat)) = false := q2
            rw [g2] at q2'
            rw [if_neg (of_decide_eq_false q2')] at hstep
            refine ⟨_, _, rfl, s4, hq4, ?_⟩
            rw [hstep]
            simp only [List.nil_append, List.append_nil]
            exact hl4
      · rintro σ H3 ⟨c, d, rfl, s4, hq4, hl4⟩
        rw [List.length_map, List.take_length] at hl4
        have e0 : 2 * p - i = (2 * p - (i + 1)) + 1 := by omega
        refine ⟨_, rfl, l, fs.flatMap (Mi.wordsRow p), _, _, _, _, rfl, s4, nl, hl4, ?_, ?_, fun r hr2 => ?_⟩
        · rw [hw, e0]
          rfl
        · have := flat_len p fs
          rw [Nat.pow_succ]
          omega
        · obtain ⟨x, hx, hrx⟩ := List.mem_flatMap.mp hr2
          rw [wordsRow_mem hrx, hr' x hx]
    · rintro σ H2 ⟨q, fs, a, b, c, d, rfl, s2, nq, hq, hw, hl, hr'⟩
      refine ⟨_, rfl, ?_⟩
      have e : (2 * (p : Int)).toNat = 2 * p := by omega
      rw [e, Nat.sub_self] at hw
      refine k _ q s2 nq ?_
      rw [hw]
      exact hq
end
end Ev
namespace Ev
open PySem L2 PyProof.Rows
/-! values that a list of states may hold -/
inductive Okv (H : Hp) : V → Prop where
  | non : Okv H .non
  | bl (b : Bool) : Okv H (.bl b)
  | int (i : Int) : Okv H (.int i)
  | str (l : List Nat) (h : l.length ≤ 1000) (b : Mi.isSigns l = true) : Okv H (VT l)
  | lst {a : Addr} {xs : List V} (e : H a = some (.lst xs)) : Okv H (.ref a)
theorem Okv.same {H H' : Hp} {v : V} (h : Okv H v) (s : Same H H') : Okv H' v := by
  cases h with
  | non => exact .non
  | bl b => exact .bl b
  | int i => exact .int i
  | str l h b => exact .str l h b
  | lst e => exact .lst (s _ _ e)
def isStr : V → Bool
  | .str _ => true
  | _ => false
def isSignsV : V → Bool
  | .str s => Mi.isSigns s.cps.toList
  | _ => false
def isStV : V → Bool
  | .str s => Mi.isSt s.cps.toList
  | _ => false
theorem okv_cases {H : Hp} {v : V} (h : Okv H v) : (∃ l, v = VT l ∧ l.length ≤ 1000 ∧ Mi.isSigns l = true) ∨ (isStr v = false ∧ isStV v = false ∧ isSignsV v = false) := by
  cases h with
  | str l h b => exact .inl ⟨l, rfl, h, b⟩
  | _ => exact .inr ⟨rfl, rfl, rfl⟩
theorem isi_str {K : PySem.W.Frag} {H : Hp} {v : V} (h : Okv H v) : ∃ t b, TyX K H v t ∧ PySem.W.kitOne K t (.type "str") = some b ∧ b = isStr v := by
  cases h with
  | non => exact ⟨_, false, .base .non, kit_ty (by decide +kernel), rfl⟩
  | bl b => exact ⟨_, false, .base (.bl b), kit_ty (by decide +kernel), rfl⟩
  | int b => exact ⟨_, false, .base (.int b), kit_ty (by decide +kernel), rfl⟩
  | str l h hb => exact ⟨_, true, .base (.str _), kit_ty (by decide +kernel), rfl⟩
  | lst e => exact ⟨_, false, .base (.lst e), kit_ty (by decide +kernel), rfl⟩
theorem rIsi_str {K : PySem.W.Frag} {H : Hp} {v : V} {Q : VK} (h : Okv H v) (q : Q (.bl (isStr v)) H) : rIsi K [v, .ty "str"] H Q := by
  obtain ⟨t, b, h1, h2, h3⟩ := isi_str (K := K) h
  exact ⟨v, .ty "str", t, .type "str", b, rfl, .ty "str", h1, h2, by rw [h3]; exact q⟩
theorem ifT {A B : Prop} (h : A) : if true = true then A else B := by
  rw [if_pos rfl]
  exact h
theorem ifF {A B : Prop} (h : B) : if false = true then A else B := by
  rw [if_neg (by decide)]
  exact h
def spVB (f : V → Bool) : Sp := fun vs H Q _ => ∃ v, vs = [v] ∧ Okv H v ∧ ∀ H', Same H H' → Q (.bl (f v)) H'
theorem s_01 : (Str.ofString "01").cps.toList = [48, 49] := by decide +kernel
theorem isSigns_all (l : List Nat) : (l.map fun c => decide (c ∈ (Str.ofString "01").cps.toList)).all id = Mi.isSigns l := by
  rw [s_01]
  unfold Mi.isSigns
  induction l with
  | nil => rfl
  | cons a r ih =>
    rw [List.map_cons, List.all_cons, List.all_cons, ih]
    congr 1
    by_cases h1 : a = 48 <;> by_cases h2 : a = 49 <;> simp [h1, h2]
section
variable {P : Program} {w : World} {K : PySem.W.Frag} {mg : Str → Option Value} {base : Heap}
theorem ok_signs {f : Addr} {fd : FuncData} (F : Fun K "is_signs" "is_signs" sSigns f fd) (B : Bl mg) : FnOk P w K mg base CX0 1 f fd ["value"] (spVB isSignsV) := by
  refine F.ok scSigns (fun vs H Q E h => ?_) (fun cdv A outer s H vs Q E hr h => ?_)
  · obtain ⟨z, rfl, _⟩ := h
    rfl
  · obtain ⟨v, rfl, hv, k⟩ := h
    obtain ⟨us, hus, rus⟩ := B.signs
    refine ⟨_, pss_one (ps_ret (pe_and (pe_callB call_isi (by rfl) B.isi boot_isinstance (pa_cons (pv 0) (pa_cons (pe_bltn (v := .ty "str") (by rfl) B.str PyProof.Rows.boot_str rfl) pa_nil)))
      (pe_one (pe_callB (cr_all rfl) (by rfl) B.all boot_all (pa_cons (pe_lc (own := [("sign", 1)]) (g := gName 1) (tt := tYes) rfl scSigns.nd (pi_str (pv 0))
        (blkOk_by (own := [("sign", 1)]) (N := nSigns) (sc := defScope sSigns) (by decide +kernel)) (fun _ _ _ _ _ => pg_name (i := 1) scSigns.nd rfl (Or.inl rfl)) (fun _ _ _ _ _ => pts_nil)
        (fun _ _ _ _ _ => pe_cmpR op_in_sign (pv 1) (pe_glob (by rfl) hus rus) (by rfl))) pa_nil))))), ?_⟩
    obtain ⟨ty, bt, y1, y2, y3⟩ := isi_str (K := K) hv
    refine ⟨v, rfl, v, .ty "str", ty, .type "str", bt, rfl, .ty "str", y1, y2, ?_⟩
    rw [y3]
    rcases okv_cases hv with ⟨l, rfl, hl, hb⟩ | ⟨h1, h2, h3⟩
    · refine ⟨true, rfl, ?_⟩
      rw [if_pos rfl]
      refine ⟨_, rfl, T l, rfl, fun D hD => ?_⟩
      refine lc_it walk_str (fun i H2 => Same H H2 ∧ H2 D = some (.lst (((l.take i).map fun c => decide (c ∈ (Str.ofString "01").cps.toList)).map V.bl)))
        ⟨same_upd (Same.refl H) hD, upd_same⟩ (fun _ _ _ _ => trivial) ?_ ?_
      · rintro i x H2 H3 hi ⟨s2, hd⟩ ⟨rfl, c, hc, rfl⟩
        rw [T_at] at hc
        rw [T_size] at hi
        refine ⟨rfl, tyes_ite ?_⟩
        refine ⟨_, rfl, c, _, rfl, rfl, _, hd, ?_, same_updN s2 hD, ?_⟩
        · rw [List.length_map, List.length_map, List.length_take]
          exact small1000 (by omega)
        · rw [upd_same, List.take_succ, hc]
          simp
      · rintro H2 ⟨s2, hd⟩
        rw [T_size, List.take_length] at hd
        refine ⟨D, _, rfl, SqL.of hd, ?_⟩
        have kk := k _ s2
        show Q (.bl _) _
        rw [isSigns_all]
        exact kk
    · rw [h1]
      rw [h3] at k
      exact ⟨false, rfl, by rw [if_neg (by decide)]; exact k _ (Same.refl H)⟩

/-! ### burning -/
def spTI (f : List Nat → Int) : Sp := fun vs H Q _ => ∃ w, vs = [VT w] ∧ w.length ≤ 1000 ∧ ∀ H', Same H H' → Q (.int (f w)) H'
theorem ok_burning {f : Addr} {fd : FuncData} (F : Fun K "burning" "burning" sBurning f fd) (B : Bl mg) : FnOk P w K mg base CX0 1 f fd ["signs"] (spTI fun l => ((l.count 49 : Nat) : Int)) := by
  refine F.ok scBurning (fun vs H Q E h => ?_) (fun cdv A outer s H vs Q E hr h => ?_)
  · obtain ⟨z, rfl, _⟩ := h
    rfl
  · obtain ⟨l, rfl, hl, k⟩ := h
    obtain ⟨us, hus, rus⟩ := B.burns
    refine ⟨_, pss_one (ps_ret (pe_callB call_len_seq (by rfl) B.len PySem.boot_len (pa_cons (pe_lc (own := [("sign", 1)]) (g := gName 1) rfl scBurning.nd (pi_str (pv 0))
        (blkOk_by (own := [("sign", 1)]) (N := nBurning) (sc := defScope sBurning) (by decide +kernel)) (fun _ _ _ _ _ => pg_name (i := 1) scBurning.nd rfl (Or.inl rfl)) (fun _ _ _ _ _ => pts_one (pt_cmpR op_eq (pv 1) (pe_glob (by rfl) hus rus) (by rfl)))
        (fun _ _ _ _ _ => pv 1)) pa_nil))), ?_⟩
    refine ⟨_, rfl, T l, rfl, fun D hD => ?_⟩
    refine lc_it walk_str (fun i H2 => Same H H2 ∧ ∃ acc, H2 D = some (.lst acc) ∧ acc.length = (l.take i).count 49)
      ⟨same_upd (Same.refl H) hD, [], upd_same, by simp⟩ (fun _ _ _ _ => trivial) ?_ ?_
    · rintro i x H2 H3 hi ⟨s2, acc, hd, ha⟩ ⟨rfl, c, hc, rfl⟩
      rw [T_at] at hc
      rw [T_size] at hi
      have hcl := List.count_le_length (a := 49) (l := l.take i)
      rw [List.length_take] at hcl
      have hs : (l.take (i + 1)).count 49 = (l.take i).count 49 + (if c = 49 then 1 else 0) := by
        rw [List.take_succ, hc, List.count_append]
        show _ + List.count 49 [c] = _
        rw [List.count_singleton]
        simp
      refine ⟨rfl, _, rfl, rfl, _, rfl, iteB (fun e => ?_) (fun e => ?_)⟩
      · rw [s_one, dec_sign] at e
        refine ⟨_, rfl, acc, hd, small1000 (by omega), same_updN s2 hD, _, upd_same, ?_⟩
        rw [hs, if_pos (of_decide_eq_true e), List.length_append, ha, List.length_singleton]
      · rw [s_one, dec_sign] at e
        refine ⟨s2, acc, hd, ?_⟩
        rw [hs, if_neg (of_decide_eq_false e), ha]
        rfl
    · rintro H2 ⟨s2, acc, hd, ha⟩
      rw [T_size, List.take_length] at ha
      refine ⟨D, acc, rfl, .inl (SqL.of hd), ?_⟩
      rw [ha]
      exact k _ s2

/-! ### is_state, _law_is_state -/
theorem isSt_of {l : List Nat} (hb : Mi.isSigns l = true) : Mi.isSt l = (decide (l.length % 2 = 1) && decide (3 ≤ l.length) && decide (l.length ≤ 401) && (decide (l.count 49 = l.length / 2) || decide (l.count 49 = l.length / 2 + 1))) := by
  unfold Mi.isSt
  rw [hb, Bool.true_and]
theorem inV2 (n a b : Int) : inV (.int n) [.int a, .int b] = (decide (n = a) || decide (n = b)) := by
  show ((eqV (.int a) (.int n)) || ((eqV (.int b) (.int n)) || false)) = _
  show (decide (a = n) || (decide (b = n) || false)) = _
  rw [Bool.or_false]
  congr 1 <;> simp [eq_comm]
theorem ok_isState {f fS fB : Addr} {fd fdS fdB : FuncData} (F : Fun K "is_state" "is_state" sIsState f fd) (B : Bl mg)
    (FS : Fun K "is_signs" "is_signs" sSigns fS fdS) (bS : Binds K fdS ["value"] []) (gS : mg "is_signs" = some (.ref fS))
    (FB : Fun K "burning" "burning" sBurning fB fdB) (bB : Binds K fdB ["signs"] []) (gB : mg "burning" = some (.ref fB)) : FnOk P w K mg base CX0 2 f fd ["value"] (spVB isStV) := by
  have GS : FnOk P w K mg base CX0 1 fS fdS ["value"] (spVB isSignsV) := ok_signs FS B
  have GB : FnOk P w K mg base CX0 1 fB fdB ["signs"] (spTI fun l => ((l.count 49 : Nat) : Int)) := ok_burning FB B
  refine F.ok scIsState (fun vs H Q E h => ?_) (fun cdv A outer s H vs Q E hr h => ?_)
  · obtain ⟨z, rfl, _⟩ := h
    rfl
  · obtain ⟨v, rfl, hv, k⟩ := h
    obtain ⟨us, hus, rus⟩ := B.pairs
    refine ⟨_, pss_cons (ps_if (pw_or (pt_not (pt_val (pe_call GS hr (by rfl) gS FS.kp bS .nil pass0 (pa_cons (pv 0) pa_nil))))
        (pw_or (pt_cmpR op_eq (pe_op op_mod (pe_callB call_len (by rfl) B.len PySem.boot_len (pa_cons (pv 0) pa_nil)) pe_int) pe_int (nomark _))
        (pw_or1 (pt_not (pt_chain op_le op_le pe_int (pe_callB call_len (by rfl) B.len PySem.boot_len (pa_cons (pv 0) pa_nil)) (pe_op op_add (pe_op op_mul pe_int (pe_glob (by rfl) hus rus)) pe_int)))))).pt
        (pss_one (ps_ret pe_bl)) pss_nil)
      (pss_one (ps_ret (pe_cmpR op_in_seq (pe_call GB hr (by rfl) gB FB.kp bB .nil pass0 (pa_cons (pv 0) pa_nil)) (pe_tup (pa_cons (pe_op op_fdiv (pe_callB call_len (by rfl) B.len PySem.boot_len (pa_cons (pv 0) pa_nil)) pe_int) (pa_cons (pe_op op_add (pe_op op_fdiv (pe_callB call_len (by rfl) B.len PySem.boot_len (pa_cons (pv 0) pa_nil)) pe_int) pe_int) pa_nil))) (by rfl)))), ?_⟩
    refine ⟨v, rfl, v, rfl, hv, fun H2 s2 => ?_⟩
    rcases okv_cases hv with ⟨l, rfl, hl, hb⟩ | ⟨h1, h2, h3⟩
    · refine ⟨true, by show V.bl (Mi.isSigns l) = _; rw [hb], ?_⟩
      have e0 := isSt_of hb
      have hll : (((T l).length : Nat) : Int) = (l.length : Nat) := by rw [T_len]
      show if (!true) = true then _ else _
      rw [if_neg (by decide)]
      refine ⟨_, rfl, _, _, rfl, ⟨sl1000 hl, rfl⟩, _, _, rfl, rfl, (show (0 : Int) < 2 by decide), rfl, _, rfl, iteB (fun q => ?_) (fun q => ?_)⟩
      · have q1 : decide (V.int ((((T l).length : Nat) : Int) % 2) = V.int 0) = true := q
        have q2 := of_dI q1
        rw [T_len] at q2
        rw [decide_eq_false (show ¬ l.length % 2 = 1 by omega), Bool.false_and, Bool.false_and, Bool.false_and] at e0
        have kk := k _ s2
        rw [show isStV (VT l) = false from e0] at kk
        exact ifT kk
      · have q1 : decide (V.int ((((T l).length : Nat) : Int) % 2) = V.int 0) = false := q
        have q2 := of_dI' q1
        rw [T_len] at q2
        rw [decide_eq_true (show l.length % 2 = 1 by omega), Bool.true_and] at e0
        refine ⟨_, rfl, _, _, rfl, ⟨sl1000 hl, rfl⟩, _, _, rfl, rfl, _, rfl, iteB (fun p1 => ?_) (fun p1 => ?_)⟩
        · have p2 : (3 : Int) ≤ (((T l).length : Nat) : Int) := of_decide_eq_true p1
          rw [T_len] at p2
          rw [decide_eq_true (show 3 ≤ l.length by omega), Bool.true_and] at e0
          refine ⟨_, _, rfl, rfl, .inl ⟨by decide, by decide⟩, _, _, rfl, rfl, _, _, rfl, rfl, _, rfl, ?_⟩
          have g1 : decide ((((T l).length : Nat) : Int) ≤ 2 * 200 + 1) = decide (l.length ≤ 401) := by
            rw [T_len]
            by_cases h : l.length ≤ 401
            · rw [decide_eq_true h, decide_eq_true (by omega)]
            · rw [decide_eq_false h, decide_eq_false (by omega)]
          show if (!decide ((((T l).length : Nat) : Int) ≤ 2 * 200 + 1)) = true then _ else _
          rw [g1]
          cases h : decide (l.length ≤ 401)
          · rw [h, Bool.false_and] at e0
            have kk := k _ s2
            rw [show isStV (VT l) = false from e0] at kk
            exact ifT kk
          · rw [h, Bool.true_and] at e0
            refine ifF ?_
            refine ⟨_, rfl, l, rfl, hl, fun H3 s3 => ?_⟩
            refine ⟨_, rfl, _, _, rfl, ⟨sl1000 hl, rfl⟩, _, _, rfl, rfl, (by first | exact ⟨by decide, by decide⟩ | (show (0 : Int) < 2; decide)), _, rfl, _, _, rfl, ⟨sl1000 hl, rfl⟩, _, _, rfl, rfl, (by first | exact ⟨by decide, by decide⟩ | (show (0 : Int) < 2; decide)), _, _, rfl, rfl, (by show 2 ≤ sizeLine; decide), fun p np => ?_⟩
            refine ⟨p, _, rfl, .inr (SqT.of upd_same), rfl, rfl, ?_⟩
            have g2 : inV (.int ((l.count 49 : Nat) : Int)) [.int ((((T l).length : Nat) : Int) / 2), .int ((((T l).length : Nat) : Int) / 2 + 1)] = isStV (VT l) := by
              rw [inV2, T_len]
              show _ = Mi.isSt l
              rw [e0]
              congr 1
              · by_cases h : l.count 49 = l.length / 2
                · rw [decide_eq_true h, decide_eq_true (by omega)]
                · rw [decide_eq_false h, decide_eq_false (by omega)]
              · by_cases h : l.count 49 = l.length / 2 + 1
                · rw [decide_eq_true h, decide_eq_true (by omega)]
                · rw [decide_eq_false h, decide_eq_false (by omega)]
            have kk := k _ (same_upd (o := .tup [.int ((((T l).length : Nat) : Int) / 2), .int ((((T l).length : Nat) : Int) / 2 + 1)]) (fun b o e => s3 b o (s2 b o e)) np)
            rw [← g2] at kk
            exact kk
        · have p2 : ¬ (3 : Int) ≤ (((T l).length : Nat) : Int) := of_decide_eq_false p1
          rw [T_len] at p2
          rw [decide_eq_false (show ¬ 3 ≤ l.length by omega), Bool.false_and, Bool.false_and] at e0
          refine ⟨false, rfl, ifT ?_⟩
          have kk := k _ s2
          rw [show isStV (VT l) = false from e0] at kk
          exact kk
    · refine ⟨false, by rw [h3], ifT ?_⟩
      rw [h2] at k
      exact k _ s2
end
end Ev
namespace Ev
open PySem L2 PyProof.Rows
theorem signs_filter {l : List Nat} (h : Mi.isSigns l = true) {c : Nat} (hc : c ∈ l) : decide (c ∈ (Str.ofString "01").cps.toList) = true := by
  rw [s_01]
  have := List.all_eq_true.mp h c hc
  rw [Bool.or_eq_true] at this
  rcases this with h | h
  · simp [of_decide_eq_true h]
  · simp [of_decide_eq_true h]
theorem room64 {k : Nat} {A : Around} (hr : Room k A) : A.units + 64 < cLine := by have := hr.un; omega
section
variable {P : Program} {w : World} {K : PySem.W.Frag} {mg : Str → Option Value} {base : Heap}
theorem ok_isSt {f : Addr} {fd : FuncData} (F : Fun K "_law_is_state" "_law_is_state" sIsSt f fd) (B : Bl mg) : FnOk P w K mg base CX0 1 f fd ["_law_value"] (spVB isStV) := by
  refine F.ok scIsSt (fun vs H Q E h => ?_) (fun cdv A outer s H vs Q E hr h => ?_)
  · obtain ⟨z, rfl, _⟩ := h
    rfl
  · obtain ⟨v, rfl, hv, k⟩ := h
    refine ⟨_, pss_cons (ps_if (pw_or (pt_not (pt_val (pe_callB call_isi (by rfl) B.isi boot_isinstance (pa_cons (pv 0) (pa_cons (pe_bltn (v := .ty "str") (by rfl) B.str PyProof.Rows.boot_str rfl) pa_nil)))))
        (pw_or1 (pt_cmpR (op_neD (room64 hr)) (pe_lc (own := [("_law_sign", 1)]) (g := gName 1) rfl scIsSt.nd (pi_str (pv 0))
          (blkOk_by (own := [("_law_sign", 1)]) (N := nIsSt) (sc := defScope sIsSt) (by decide +kernel)) (fun _ _ _ _ _ => pg_name (i := 1) scIsSt.nd rfl (Or.inl rfl)) (fun _ _ _ _ _ => pts_one (pt_cmpR op_notIn_sign (pv 1) pe_str (by rfl)))
          (fun _ _ _ _ _ => pv 1)) (pe_lst pa_nil) (by rfl)))).pt
        (pss_one (ps_ret pe_bl)) pss_nil)
      (pss_one (ps_ret (pe_and (pe_cmpR op_eq (pe_op op_mod (pe_callTy call_int1 (by rfl) B.int (by decide +kernel) (pa_cons (pe_callB call_len (by rfl) B.len PySem.boot_len (pa_cons (pv 0) pa_nil)) pa_nil)) pe_int) pe_int (nomark _))
        (pe_and (pe_chain op_le op_le pe_int (pe_callB call_len (by rfl) B.len PySem.boot_len (pa_cons (pv 0) pa_nil)) pe_int)
        (pe_one (pe_cmpR op_in_seq (pe_m1 PySem.F.slot_str_count PySem.F.type_str_count mt_count (pv 0) pe_str) (pe_lst (pa_cons (pe_op op_fdiv (pe_callB call_len (by rfl) B.len PySem.boot_len (pa_cons (pv 0) pa_nil)) pe_int) (pa_cons (pe_op op_add (pe_op op_fdiv (pe_callB call_len (by rfl) B.len PySem.boot_len (pa_cons (pv 0) pa_nil)) pe_int) pe_int) pa_nil))) (by rfl))))))), ?_⟩
    obtain ⟨ty, bt, y1, y2, y3⟩ := isi_str (K := K) hv
    refine ⟨v, rfl, v, .ty "str", ty, .type "str", bt, rfl, .ty "str", y1, y2, ?_⟩
    rw [y3]
    rcases okv_cases hv with ⟨l, rfl, hl, hb⟩ | ⟨h1, h2, h3⟩
    · refine ⟨true, rfl, ifF ?_⟩
      have e0 := isSt_of hb
      refine ⟨_, rfl, T l, rfl, fun D hD => ?_⟩
      refine lc_it walk_str (fun i H2 => Same H H2 ∧ H2 D = some (.lst []))
        ⟨same_upd (Same.refl H) hD, upd_same⟩ (fun _ _ _ _ => trivial) ?_ ?_
      · rintro i x H2 H3 hi ⟨s2, hd⟩ ⟨rfl, c, hc, rfl⟩
        rw [T_at] at hc
        refine ⟨rfl, _, rfl, c, _, rfl, rfl, _, rfl, ?_⟩
        rw [signs_filter hb (List.mem_of_getElem? hc)]
        exact ifF ⟨s2, hd⟩
      · rintro H2 ⟨s2, hd⟩
        refine ⟨(by show 0 ≤ sizeLine; decide), fun p np => ?_⟩
        have hp : D ≠ p := ne_of_none hd np
        refine ⟨.list [], .list [], .lst (SqL.of (by rw [upd_ne hp]; exact hd)) .nil, .lst (SqL.of upd_same) .nil, by decide +kernel, by decide +kernel, ?_⟩
        have s3 : Same H (upd H2 p (.lst [])) := same_upd s2 np
        refine ⟨_, rfl, ?_⟩
        show if (!PyData.eqv (.list []) (.list [])) = true then _ else _
        rw [show PyData.eqv (.list []) (.list []) = true by decide +kernel]
        refine ifF ?_
        refine ⟨_, rfl, _, _, rfl, ⟨sl1000 hl, rfl⟩, .inl ⟨_, rfl, ?_⟩⟩
        refine ⟨_, _, rfl, rfl, (show (0 : Int) < 2 by decide), rfl, _, rfl, iteB (fun q => ?_) (fun q => ?_)⟩
        · have q1 : decide (V.int ((((T l).length : Nat) : Int) % 2) = V.int 1) = true := q
          have q2 := of_dI q1
          rw [T_len] at q2
          rw [decide_eq_true (show l.length % 2 = 1 by omega), Bool.true_and] at e0
          refine ⟨_, rfl, _, _, rfl, ⟨sl1000 hl, rfl⟩, _, _, rfl, rfl, _, rfl, iteB (fun p1 => ?_) (fun p1 => ?_)⟩
          · have p2 : (3 : Int) ≤ (((T l).length : Nat) : Int) := of_decide_eq_true p1
            rw [T_len] at p2
            rw [decide_eq_true (show 3 ≤ l.length by omega), Bool.true_and] at e0
            refine ⟨_, _, rfl, rfl, _, rfl, ?_⟩
            have g1 : decide ((((T l).length : Nat) : Int) ≤ 401) = decide (l.length ≤ 401) := by
              rw [T_len]
              by_cases h : l.length ≤ 401
              · rw [decide_eq_true h, decide_eq_true (by omega)]
              · rw [decide_eq_false h, decide_eq_false (by omega)]
            show if decide ((((T l).length : Nat) : Int) ≤ 401) = true then _ else _
            rw [g1]
            cases h : decide (l.length ≤ 401)
            · rw [h, Bool.false_and] at e0
              have kk := k _ s3
              rw [show isStV (VT l) = false from e0] at kk
              exact ifF kk
            · rw [h, Bool.true_and] at e0
              refine ifT ?_
              refine ⟨_, rfl, ⟨_, rfl⟩, _, _, rfl, rfl, ?_⟩
              have hcnt : Txt.count (T l) (Str.ofString "1") = ((l.count 49 : Nat) : Int) := by rw [s_one, count_sign]
              rw [hcnt]
              refine ⟨_, rfl, _, _, rfl, ⟨sl1000 hl, rfl⟩, _, _, rfl, rfl, (by first | exact ⟨by decide, by decide⟩ | (show (0 : Int) < 2; decide)), _, rfl, _, _, rfl, ⟨sl1000 hl, rfl⟩, _, _, rfl, rfl, (by first | exact ⟨by decide, by decide⟩ | (show (0 : Int) < 2; decide)), _, _, rfl, rfl, (by show 2 ≤ sizeLine; decide), fun p5 np5 => ?_⟩
              refine ⟨p5, _, rfl, .inl (SqL.of upd_same), rfl, rfl, ?_⟩
              have g2 : inV (.int ((l.count 49 : Nat) : Int)) [.int ((((T l).length : Nat) : Int) / 2), .int ((((T l).length : Nat) : Int) / 2 + 1)] = isStV (VT l) := by
                rw [inV2, T_len]
                show _ = Mi.isSt l
                rw [e0]
                congr 1
                · by_cases h : l.count 49 = l.length / 2
                  · rw [decide_eq_true h, decide_eq_true (by omega)]
                  · rw [decide_eq_false h, decide_eq_false (by omega)]
                · by_cases h : l.count 49 = l.length / 2 + 1
                  · rw [decide_eq_true h, decide_eq_true (by omega)]
                  · rw [decide_eq_false h, decide_eq_false (by omega)]
              have kk := k _ (same_upd (o := .lst [.int ((((T l).length : Nat) : Int) / 2), .int ((((T l).length : Nat) : Int) / 2 + 1)]) s3 np5)
              rw [← g2] at kk
              exact kk
          · have p2 : ¬ (3 : Int) ≤ (((T l).length : Nat) : Int) := of_decide_eq_false p1
            rw [T_len] at p2
            rw [decide_eq_false (show ¬ 3 ≤ l.length by omega), Bool.false_and, Bool.false_and] at e0
            have kk := k _ s3
            rw [show isStV (VT l) = false from e0] at kk
            exact ⟨_, rfl, ifF kk⟩
        · have q1 : decide (V.int ((((T l).length : Nat) : Int) % 2) = V.int 1) = false := q
          have q2 := of_dI' q1
          rw [T_len] at q2
          rw [decide_eq_false (show ¬ l.length % 2 = 1 by omega), Bool.false_and, Bool.false_and, Bool.false_and] at e0
          have kk := k _ s3
          rw [show isStV (VT l) = false from e0] at kk
          exact kk
    · refine ⟨false, by rw [h1], ifT ?_⟩
      rw [h2] at k
      exact k _ (Same.refl H)
end
end Ev
namespace Ev
open PySem L2 PyProof.Rows
/-! ### unlike_lamps, _law_differ -/
def spDif : Sp := fun vs H Q _ => ∃ (a b : List Nat), vs = [VT a, VT b] ∧ a.length ≤ 1000 ∧ b.length ≤ 1000 ∧ a.length ≤ b.length ∧ ∀ H', Same H H' → Q (.int ((Mi.unlike a b : Nat) : Int)) H'
theorem unlike_succ {p : Nat → Bool} {i : Nat} : ((List.range (i + 1)).filter p).length = ((List.range i).filter p).length + (if p i = true then 1 else 0) := by
  rw [List.range_succ, List.filter_append, List.length_append]
  congr 1
  by_cases h : p i = true
  · simp [h]
  · simp [h]
section
variable {P : Program} {w : World} {K : PySem.W.Frag} {mg : Str → Option Value} {base : Heap}
theorem ok_unlike {f : Addr} {fd : FuncData} (F : Fun K "unlike_lamps" "unlike_lamps" sUnlike f fd) (B : Bl mg) : FnOk P w K mg base CX0 1 f fd ["one", "other"] spDif := by
  refine F.ok scUnlike (fun vs H Q E h => ?_) (fun cdv A outer s H vs Q E hr h => ?_)
  · obtain ⟨a, b, rfl, _⟩ := h
    rfl
  · obtain ⟨a, b, rfl, ha, hb, hab, k⟩ := h
    refine ⟨_, pss_one (ps_ret (pe_callB call_len_seq (by rfl) B.len PySem.boot_len (pa_cons (pe_lc (own := [("lamp", 2), ("sign", 3)]) (g := gTup K 2 (gCons (gName 2) (gCons (gName 3) gNil))) rfl scUnlike.nd (pi_enumT (by rfl) B.enum (pa_cons (pv 0) pa_nil))
        (blkOk_by (own := [("lamp", 2), ("sign", 3)]) (N := nUnlike) (sc := defScope sUnlike) (by decide +kernel)) (fun _ _ _ _ _ => pg_tup rfl (pgs_cons (pg_name (i := 2) scUnlike.nd rfl (Or.inl rfl)) (pgs_cons (pg_name (i := 3) scUnlike.nd rfl (Or.inl rfl)) pgs_nil)))
        (fun _ _ _ _ _ => pts_one (pt_cmpR op_ne (pv 3) (pe_ix ix_str (pv 1) (pv 2) (fun _ _ => rfl)) (nomark _)))
        (fun _ _ _ _ _ => pv 2)) pa_nil))), ?_⟩
    refine ⟨_, rfl, T a, rfl, fun D hD => ?_⟩
    refine lc_it walk_enumS (fun i H2 => Same H H2 ∧ ∃ acc, H2 D = some (.lst acc) ∧ acc.length = ((List.range i).filter fun i => !decide (a.getD i 0 = b.getD i 0)).length)
      ⟨same_upd (Same.refl H) hD, [], upd_same, by simp⟩ (fun _ _ _ _ => trivial) ?_ ?_
    · rintro i x H2 H3 hi ⟨s2, acc, hd, hacc⟩ ⟨p, y, rfl, np, rfl, c, hc, rfl⟩
      rw [T_at] at hc
      rw [T_size] at hi
      have hpD : D ≠ p := ne_of_none hd np
      have hb2 := List.getElem?_eq_getElem (show i < b.length by omega)
      have s3 : Same H (upd H2 p (.tup [.int (i : Nat), .str ⟨#[c]⟩])) := same_upd s2 np
      have hfl := List.length_filter_le (fun i => !decide (a.getD i 0 = b.getD i 0)) (List.range i)
      rw [List.length_range] at hfl
      have hst := unlike_succ (p := fun i => !decide (a.getD i 0 = b.getD i 0)) (i := i)
      refine ⟨p, _, rfl, SqT.of upd_same, rfl, _, _, rfl, _, _, rfl, rfl, rfl, ?_⟩
      refine ⟨_, rfl, _, rfl, _, rfl, T b, _, _, rfl, rfl, sl1000 hb, atI_codes rfl hb2, rfl, _, rfl, ?_⟩
      have e1 : decide (V.str ⟨#[c]⟩ = V.str ⟨#[b[i]]⟩) = decide (a.getD i 0 = b.getD i 0) := by
        rw [getD_at hc, getD_at hb2]
        by_cases h : c = b[i]
        · rw [h]; simp
        · rw [decide_eq_false h, decide_eq_false]
          intro e
          injection e with e
          exact h (by injection e with e; simpa using e)
      show if (!decide (V.str ⟨#[c]⟩ = V.str ⟨#[b[i]]⟩)) = true then _ else _
      rw [e1]
      cases hq : (!decide (a.getD i 0 = b.getD i 0))
      · rw [hq] at hst
        refine ifF ⟨s3, acc, by rw [upd_ne hpD]; exact hd, ?_⟩
        rw [hst, hacc]
        rfl
      · rw [hq] at hst
        refine ifT ⟨_, rfl, acc, by rw [upd_ne hpD]; exact hd, small1000 (by omega), same_updN s3 hD, _, upd_same, ?_⟩
        rw [hst, List.length_append, hacc]
        rfl
    · rintro H2 ⟨s2, acc, hd, hacc⟩
      rw [T_size] at hacc
      refine ⟨D, acc, rfl, .inl (SqL.of hd), ?_⟩
      rw [hacc]
      exact k _ s2
theorem ok_differ {f : Addr} {fd : FuncData} (F : Fun K "_law_differ" "_law_differ" sDiffer f fd) (B : Bl mg) : FnOk P w K mg base CX0 1 f fd ["_law_one", "_law_other"] spDif := by
  refine F.ok scDiffer (fun vs H Q E h => ?_) (fun cdv A outer s H vs Q E hr h => ?_)
  · obtain ⟨a, b, rfl, _⟩ := h
    rfl
  · obtain ⟨a, b, rfl, ha, hb, hab, k⟩ := h
    refine ⟨_, pss_one (ps_ret (pe_callB call_len_seq (by rfl) B.len PySem.boot_len (pa_cons (pe_lc (own := [("_law_lamp", 2)]) (g := gName 2) rfl scDiffer.nd (pi_range1 (by rfl) B.range (pa_cons (pe_callB call_len (by rfl) B.len PySem.boot_len (pa_cons (pv 0) pa_nil)) pa_nil))
        (blkOk_by (own := [("_law_lamp", 2)]) (N := nDiffer) (sc := defScope sDiffer) (by decide +kernel)) (fun _ _ _ _ _ => pg_name (i := 2) scDiffer.nd rfl (Or.inl rfl))
        (fun _ _ _ _ _ => pts_one (pt_cmpR op_ne (pe_ix ix_str (pv 0) (pv 2) (fun _ _ => rfl)) (pe_ix ix_str (pv 1) (pv 2) (fun _ _ => rfl)) (nomark _)))
        (fun _ _ _ _ _ => pv 2)) pa_nil))), ?_⟩
    refine ⟨_, rfl, _, _, rfl, ⟨sl1000 ha, rfl⟩, _, rfl, by rw [T_len]; omega, by rw [T_len]; omega, fun D hD => ?_⟩
    refine lc_range (lo := 0) (n := (((T a).length : Nat) : Int).toNat) (fun i H2 => Same H H2 ∧ ∃ acc, H2 D = some (.lst acc) ∧ acc.length = ((List.range i).filter fun i => !decide (a.getD i 0 = b.getD i 0)).length)
      ⟨same_upd (Same.refl H) hD, [], upd_same, by simp⟩ ?_ ?_
    · rintro i H2 hi ⟨s2, acc, hd, hacc⟩
      rw [Int.toNat_natCast, T_len] at hi
      have ha2 := List.getElem?_eq_getElem (show i < a.length by omega)
      have hb2 := List.getElem?_eq_getElem (show i < b.length by omega)
      have hfl := List.length_filter_le (fun i => !decide (a.getD i 0 = b.getD i 0)) (List.range i)
      rw [List.length_range] at hfl
      have hst := unlike_succ (p := fun i => !decide (a.getD i 0 = b.getD i 0)) (i := i)
      refine ⟨rfl, _, rfl, _, rfl, T a, _, _, rfl, rfl, sl1000 ha, atI_codes (Int.zero_add _) ha2, _, rfl, _, rfl, T b, _, _, rfl, rfl, sl1000 hb, atI_codes (Int.zero_add _) hb2, rfl, _, rfl, ?_⟩
      have e1 : decide (V.str ⟨#[a[i]]⟩ = V.str ⟨#[b[i]]⟩) = decide (a.getD i 0 = b.getD i 0) := by
        rw [getD_at ha2, getD_at hb2]
        by_cases h : a[i] = b[i]
        · rw [h]; simp
        · rw [decide_eq_false h, decide_eq_false]
          intro e
          injection e with e
          exact h (by injection e with e; simpa using e)
      show if (!decide (V.str ⟨#[a[i]]⟩ = V.str ⟨#[b[i]]⟩)) = true then _ else _
      rw [e1]
      cases hq : (!decide (a.getD i 0 = b.getD i 0))
      · rw [hq] at hst
        refine ifF ⟨s2, acc, hd, ?_⟩
        rw [hst, hacc]
        rfl
      · rw [hq] at hst
        refine ifT ⟨_, rfl, acc, hd, small1000 (by omega), same_updN s2 hD, _, upd_same, ?_⟩
        rw [hst, List.length_append, hacc]
        rfl
    · rintro H2 ⟨s2, acc, hd, hacc⟩
      rw [Int.toNat_natCast, T_len] at hacc
      refine ⟨D, acc, rfl, .inl (SqL.of hd), ?_⟩
      rw [hacc]
      exact k _ s2

/-! ### least_state, greater_state -/
def spLeast : Sp := fun vs H Q _ => ∃ (fr : List Nat) (n : Nat), vs = [VT fr, .int (n : Nat)] ∧ fr.length ≤ 1000 ∧ n ≤ 1000 ∧ ∀ H', Same H H' → Q (VT (Mi.leastM fr n)) H'
theorem ok_least {f fB : Addr} {fd fdB : FuncData} (F : Fun K "least_state" "least_state" sLeast f fd) (B : Bl mg)
    (FB : Fun K "burning" "burning" sBurning fB fdB) (bB : Binds K fdB ["signs"] []) (gB : mg "burning" = some (.ref fB)) : FnOk P w K mg base CX0 2 f fd ["front", "lamps"] spLeast := by
  have GB : FnOk P w K mg base CX0 1 fB fdB ["signs"] (spTI fun l => ((l.count 49 : Nat) : Int)) := ok_burning FB B
  refine F.ok scLeast (fun vs H Q E h => ?_) (fun cdv A outer s H vs Q E hr h => ?_)
  · obtain ⟨a, b, rfl, _⟩ := h
    rfl
  · obtain ⟨fr, n, rfl, hf, hn, k⟩ := h
    obtain ⟨u1, hu1, ru1⟩ := B.dark
    obtain ⟨u2, hu2, ru2⟩ := B.burns
    refine ⟨_, pss_cons (ps_set (i := 2) scLeast.nd rfl (Or.inl rfl) (pe_callB (call_max2 rfl) (by rfl) B.max PyProof.Rows.boot_max (pa_cons pe_int (pa_cons (pe_op op_sub (pe_op op_fdiv (pv 1) pe_int) (pe_call GB hr (by rfl) gB FB.kp bB .nil pass0 (pa_cons (pv 0) pa_nil))) pa_nil))))
      (pss_one (ps_ret (pe_op op_add_str (pe_op op_add_str (pv 0) (pe_op op_mulT (pe_glob (by rfl) hu1 ru1) (pe_op op_sub (pe_op op_sub (pv 1) (pe_callB call_len (by rfl) B.len PySem.boot_len (pa_cons (pv 0) pa_nil))) (pv 2)))) (pe_op op_mulT (pe_glob (by rfl) hu2 ru2) (pv 2))))), ?_⟩
    have hcl := List.count_le_length (a := 49) (l := fr)
    refine ⟨_, rfl, _, _, rfl, rfl, ⟨by decide, by decide⟩, _, rfl, fr, rfl, hf, fun H2 s2 => ?_⟩
    have em : (if ((n : Nat) : Int) / 2 - ((fr.count 49 : Nat) : Int) > 0 then ((n : Nat) : Int) / 2 - ((fr.count 49 : Nat) : Int) else 0) = ((n / 2 - fr.count 49 : Nat) : Int) := by
      split <;> omega
    have kk := k _ s2
    have lT : (T fr).length = fr.length := T_len fr
    have e1 : (T (List.replicate (((n : Nat) : Int) - (((T fr).length : Nat) : Int) - (if ((n : Nat) : Int) / 2 - ((fr.count 49 : Nat) : Int) > 0 then ((n : Nat) : Int) / 2 - ((fr.count 49 : Nat) : Int) else 0)).toNat 48)) = T (List.replicate (n - fr.length - (n / 2 - fr.count 49)) 48) := by
      rw [em, lT]
      congr 2
      omega
    have e2 : (T (List.replicate ((if ((n : Nat) : Int) / 2 - ((fr.count 49 : Nat) : Int) > 0 then ((n : Nat) : Int) / 2 - ((fr.count 49 : Nat) : Int) else 0)).toNat 49)) = T (List.replicate (n / 2 - fr.count 49) 49) := by
      rw [em]
      congr 2
    unfold VT Mi.leastM at kk
    rw [← T_app, ← T_app, ← e1, ← e2] at kk
    refine ⟨_, _, rfl, rfl, _, _, rfl, ?_⟩
    refine ⟨_, rfl, _, rfl, _, rfl, _, _, rfl, ⟨sl1000 hf, rfl⟩, _, _, rfl, rfl, _, rfl, _, _, rfl, rfl, 48, _, ?_, rfl, ?_, ?_, _, _, rfl, rfl, ?_, _, rfl, 49, _, ?_, rfl, ?_, ?_, _, _, rfl, rfl, ?_, kk⟩
    · rw [s_zero]; rfl
    · show (-1000 : Int) ≤ (n : Nat) - (((T fr).length : Nat) : Int) - (if ((n : Nat) : Int) / 2 - ((fr.count 49 : Nat) : Int) > 0 then ((n : Nat) : Int) / 2 - ((fr.count 49 : Nat) : Int) else 0)
      rw [em, lT]
      omega
    · show ((n : Nat) : Int) - (((T fr).length : Nat) : Int) - (if ((n : Nat) : Int) / 2 - ((fr.count 49 : Nat) : Int) > 0 then ((n : Nat) : Int) / 2 - ((fr.count 49 : Nat) : Int) else 0) ≤ 1000
      rw [em, lT]
      omega
    · refine small_line ?_
      show (T fr).length + (T (List.replicate (((n : Nat) : Int) - (((T fr).length : Nat) : Int) - (if ((n : Nat) : Int) / 2 - ((fr.count 49 : Nat) : Int) > 0 then ((n : Nat) : Int) / 2 - ((fr.count 49 : Nat) : Int) else 0)).toNat 48)).length ≤ _
      rw [e1, lT, T_len, List.length_replicate]
      omega
    · rw [s_one]; rfl
    · show (-1000 : Int) ≤ (if ((n : Nat) : Int) / 2 - ((fr.count 49 : Nat) : Int) > 0 then ((n : Nat) : Int) / 2 - ((fr.count 49 : Nat) : Int) else 0)
      rw [em]
      omega
    · show (if ((n : Nat) : Int) / 2 - ((fr.count 49 : Nat) : Int) > 0 then ((n : Nat) : Int) / 2 - ((fr.count 49 : Nat) : Int) else 0) ≤ 1000
      rw [em]
      omega
    · refine small_line ?_
      show (T fr ++ T (List.replicate (((n : Nat) : Int) - (((T fr).length : Nat) : Int) - (if ((n : Nat) : Int) / 2 - ((fr.count 49 : Nat) : Int) > 0 then ((n : Nat) : Int) / 2 - ((fr.count 49 : Nat) : Int) else 0)).toNat 48)).length + (T (List.replicate ((if ((n : Nat) : Int) / 2 - ((fr.count 49 : Nat) : Int) > 0 then ((n : Nat) : Int) / 2 - ((fr.count 49 : Nat) : Int) else 0)).toNat 49)).length ≤ _
      rw [e1, e2, len_app, lT, T_len, T_len, List.length_replicate, List.length_replicate]
      omega
theorem greaterGo_no {s : List Nat} : ∀ (k j : Nat), (∀ i, j ≤ i → i < k → ¬ (s.getD i 0 = 48 ∧ (s.take i).count 49 + 1 ≤ s.length / 2 + 1)) → j ≤ k → Mi.greaterGo s k = Mi.greaterGo s j
  | 0, j, _, hj => by rw [Nat.le_zero.mp hj]
  | k + 1, j, h, hj => by
    rcases Nat.lt_or_eq_of_le hj with h1 | h1
    · show (if s.getD k 0 = 48 ∧ (s.take k).count 49 + 1 ≤ s.length / 2 + 1 then _ else Mi.greaterGo s k) = _
      rw [if_neg (h k (by omega) (by omega))]
      exact greaterGo_no k j (fun i a b => h i a (by omega)) (by omega)
    · rw [h1]
theorem take_at {l : List Nat} {i c : Nat} (h : l[i]? = some c) : (l.take i ++ [49]).count 49 = (l.take i).count 49 + 1 := by
  rw [List.count_append]
  simp
def optV : Option (List Nat) → V
  | some l => VT l
  | none => .non
def spGr : Sp := fun vs H Q _ => ∃ z : List Nat, vs = [VT z] ∧ z.length ≤ 500 ∧ ∀ H', Same H H' → Q (optV (Mi.greaterM z)) H'
theorem ok_greater {f fB fL : Addr} {fd fdB fdL : FuncData} (F : Fun K "greater_state" "greater_state" sGreater f fd) (B : Bl mg)
    (FB : Fun K "burning" "burning" sBurning fB fdB) (bB : Binds K fdB ["signs"] []) (gB : mg "burning" = some (.ref fB))
    (FL : Fun K "least_state" "least_state" sLeast fL fdL) (bL : Binds K fdL ["front", "lamps"] []) (gL : mg "least_state" = some (.ref fL)) : FnOk P w K mg base CX0 3 f fd ["state"] spGr := by
  have GB : FnOk P w K mg base CX0 1 fB fdB ["signs"] (spTI fun l => ((l.count 49 : Nat) : Int)) := ok_burning FB B
  have GL : FnOk P w K mg base CX0 2 fL fdL ["front", "lamps"] spLeast := ok_least FL B FB bB gB
  refine F.ok scGreater (fun vs H Q E h => ?_) (fun cdv A outer s H vs Q E hr h => ?_)
  · obtain ⟨a, rfl, _⟩ := h
    rfl
  · obtain ⟨z, rfl, hz, k⟩ := h
    obtain ⟨u1, hu1, ru1⟩ := B.dark
    obtain ⟨u2, hu2, ru2⟩ := B.burns
    refine ⟨_, pss_cons (ps_set (i := 1) scGreater.nd rfl (Or.inl rfl) (pe_callB call_len (by rfl) B.len PySem.boot_len (pa_cons (pv 0) pa_nil)))
      (pss_cons (ps_for PassesOwn.never rfl (pi_revR (by rfl) B.rev (prg_1 (by rfl) B.range (pv 1))) (pg_name (i := 2) scGreater.nd rfl (Or.inl rfl))
        (pss_cons (ps_set (i := 3) scGreater.nd rfl (Or.inl rfl) (pe_op op_add_str (pe_slice sl_str (pv 0) po_none (po_some (pv 2))) (pe_glob (by rfl) hu2 ru2)))
        (pss_one (ps_if (pw_and (pt_cmpR op_eq (pe_ix ix_str (pv 0) (pv 2) (fun _ _ => rfl)) (pe_glob (by rfl) hu1 ru1) (nomark _))
            (pw_and1 (pt_cmpR op_le (pe_call GB (hr.mono (by decide)) (by rfl) gB FB.kp bB .nil pass0 (pa_cons (pv 3) pa_nil)) (pe_op op_add (pe_op op_fdiv (pv 1) pe_int) pe_int) (nomark _)))).pt
          (pss_one (ps_ret (pe_call GL hr (by rfl) gL FL.kp bL .nil pass0 (pa_cons (pv 3) (pa_cons (pv 1) pa_nil))))) pss_nil))))
      (pss_one (ps_ret pe_non))), ?_⟩
    have l1 : (Str.ofString "1").length = 1 := by decide +kernel
    have hz' : z.length ≤ 1000 := by omega
    have lT : (T z).length = z.length := T_len z
    refine ⟨_, rfl, _, _, rfl, ⟨sl1000 hz', rfl⟩, _, rfl, _, rfl, by decide, by decide, by rw [lT]; omega, by rw [lT]; omega, ?_⟩
    refine for_it walk_rangeC (fun i σ H2 => ∃ a b, σ = [some (VT z), some (.int (((T z).length : Nat) : Int)), a, b] ∧ Same H H2 ∧ ∀ j, z.length - i ≤ j → j < z.length → ¬ (z.getD j 0 = 48 ∧ (z.take j).count 49 + 1 ≤ z.length / 2 + 1))
      ⟨none, none, rfl, Same.refl H, fun j h1 h2 => absurd h1 (by omega)⟩ (fun _ _ _ _ _ => trivial) ?_ ?_
    · rintro i x σ H1 H2 hi ⟨a, b, rfl, s1, hno⟩ ⟨rfl, hx⟩
      have hi2 : i < z.length := by
        rw [lT] at hi
        omega
      have hj : z.length - (i + 1) < z.length := by omega
      have ev : (0 : Int) + (((((((T z).length : Nat) : Int) - 0).toNat : Nat)) : Int) - 1 + (i : Nat) * (-1) = ((z.length - (i + 1) : Nat) : Int) := by
        rw [lT]
        omega
      have hx' : x = .int ((z.length - (i + 1) : Nat) : Int) := hx.trans (congrArg V.int ev)
      subst hx'
      clear hx
      have hall : ∀ j, z.length - i ≤ j → j < z.length → ¬ (z.getD j 0 = 48 ∧ (z.take j).count 49 + 1 ≤ z.length / 2 + 1) := hno
      generalize ej : z.length - (i + 1) = j at hj
      have hc := List.getElem?_eq_getElem hj
      have hcut := cut_le hz' none (some (j : Nat))
      have hfr : (cutS (T z) none (some (j : Nat)) ++ Str.ofString "1") = T (z.take j ++ [49]) := by
        rw [T_take z (k := (j : Nat)) (n := j) rfl, s_one, T_app]
      have hcnt := take_at hc
      refine ⟨_, rfl, _, rfl, (j : Nat), rfl, T z, rfl, sl1000 hz', _, _, rfl, rfl, (by rw [l1]; exact small_line (by omega)), ?_⟩
      rw [hfr]
      refine ⟨_, rfl, _, rfl, T z, _, _, rfl, rfl, sl1000 hz', atI_codes rfl hc, rfl, _, rfl, ?_⟩
      rw [s_zero, show decide (V.str ⟨#[z[j]]⟩ = V.str (T [48])) = decide (z.getD j 0 = 48) by rw [getD_at hc]; exact dec_sign _ _]
      cases q1 : decide (z.getD j 0 = 48)
      · refine ifF (ifF ⟨_, _, rfl, s1, fun m h1 h2 => ?_⟩)
        rcases Nat.lt_or_eq_of_le h1 with h3 | h3
        · exact hall m (by omega) h2
        · have : m = j := by omega
          subst this
          exact fun h => of_decide_eq_false q1 h.1
      · refine ifT ⟨_, rfl, _, rfl, by rw [List.length_append, List.length_take, List.length_singleton]; omega, fun H2 s2 => ?_⟩
        refine ⟨_, rfl, _, _, rfl, rfl, ⟨by decide, by decide⟩, _, _, rfl, rfl, _, _, rfl, rfl, _, rfl, ?_⟩
        have g1 : decide ((((z.take j ++ [49]).count 49 : Nat) : Int) ≤ (((T z).length : Nat) : Int) / 2 + 1) = decide ((z.take j).count 49 + 1 ≤ z.length / 2 + 1) := by
          rw [hcnt, lT]
          by_cases h : (z.take j).count 49 + 1 ≤ z.length / 2 + 1
          · rw [decide_eq_true h, decide_eq_true (by omega)]
          · rw [decide_eq_false h, decide_eq_false (by omega)]
        rw [g1]
        have s3 : Same H H2 := fun b o e => s2 b o (s1 b o e)
        cases q2 : decide ((z.take j).count 49 + 1 ≤ z.length / 2 + 1)
        · refine ifF ⟨_, _, rfl, s3, fun m h1 h2 => ?_⟩
          rcases Nat.lt_or_eq_of_le h1 with h3 | h3
          · exact hall m (by omega) h2
          · have : m = j := by omega
            subst this
            exact fun h => of_decide_eq_false q2 h.2
        · refine ifT ⟨_, rfl, _, rfl, z.take j ++ [49], z.length, (by rw [lT]; rfl), by rw [List.length_append, List.length_take, List.length_singleton]; omega, by omega, fun H4 s4 => ?_⟩
          have kk := k _ (fun b o e => s4 b o (s3 b o e))
          have e : Mi.greaterM z = some (Mi.leastM (z.take j ++ [49]) z.length) := by
            unfold Mi.greaterM
            rw [greaterGo_no z.length (j + 1) (fun m h1 h2 => hall m (by omega) h2) (by omega)]
            show (if z.getD j 0 = 48 ∧ (z.take j).count 49 + 1 ≤ z.length / 2 + 1 then _ else _) = _
            rw [if_pos ⟨of_decide_eq_true q1, of_decide_eq_true q2⟩]
          rw [e] at kk
          exact kk
    · rintro σ H1 ⟨a, b, rfl, s1, hno⟩
      have kk := k _ s1
      rw [show Mi.greaterM z = none from greaterGo_no z.length 0 (fun m h1 h2 => hno m (by rw [lT]; omega) h2) (Nat.zero_le _)] at kk
      exact kk
end
end Ev
/-! A method of an own class that begins with super().__init__(..). -/
namespace Ev
open PySem PySem.Spec PyProof.Rows L2
theorem lookup_nodup {α : Type} {x : Str} {u : α} : ∀ {l : List (Str × α)}, (l.map (·.1)).Nodup → (x, u) ∈ l → l.lookup x = some u
  | [], _, h => by cases h
  | (y, v) :: r, nd, h => by
    rw [List.map_cons, List.nodup_cons] at nd
    rcases List.mem_cons.mp h with e | h2
    · injection e with e1 e2
      rw [e1, e2]
      simp [List.lookup]
    · have hne : x ≠ y := fun e => by
        subst e
        exact nd.1 (List.mem_map.mpr ⟨(x, u), h2, rfl⟩)
      rw [List.lookup_cons, show (x == y) = false by simpa using hne]
      exact lookup_nodup nd.2 h2
theorem zip_lookup {ps : List Str} {us : List Value} (nd : ps.Nodup) {i : Nat} {x : Str} {u : Value} (hp : ps[i]? = some x) (hu : us[i]? = some u) : (ps.zip us).reverse.lookup x = some u := by
  refine lookup_nodup ?_ ?_
  · rw [List.map_reverse]
    have h : ((ps.zip us).map (·.1)).Nodup := by
      have e : ∀ (a : List Str) (b : List Value), ((a.zip b).map (·.1)).Sublist a := fun a => by
        induction a with
        | nil => intro b; simp
        | cons y r ih =>
          intro b
          cases b with
          | nil => simp
          | cons z t => rw [List.zip_cons_cons, List.map_cons]; exact (ih t).cons₂ _
      exact nd.sublist (e _ _)
    exact List.pairwise_reverse.mpr (h.imp fun h e => h e.symm)
  · rw [List.mem_reverse]
    refine List.mem_of_getElem? (i := i) ?_
    rw [List.getElem?_zip_eq_some]
    exact ⟨hp, hu⟩
def cxS (P : Program) (w : World) (K : PySem.W.Frag) (mg : Str → Option Value) (base : Heap) (N : List Str) (qual : Str) (scope : Scope) (f : Addr) (cd : Value) (cc : Addr) (A : Around) (outer : List Env) (s : Shared) (H : Hp) : Cx where
  prog := P
  w := w
  K := K
  mg := mg
  base := base
  A := A.deeper (PySem.W.ksEnv qual scope s.heap.objs.size f cd cc)
  N := N
  s_0 := s
  H_0 := H
  env := PySem.W.ksEnv qual scope s.heap.objs.size f cd cc
  outer := outer
  stack := PySem.W.ksEnv qual scope s.heap.objs.size f cd cc :: outer
  ex := []
  calm := true
  fn := fun x => !(x == ("__class__" : Str))
  pn := []
  xe := fun _ _ => False
structure SScope (N ps : List Str) (sc : Scope) : Prop where
  kind : sc.kind = .function
  co : sc.isCoroutine = false
  gen : sc.isGenerator = false
  nd : N.Nodup
  pre : N.take ps.length = ps
  par : ∀ x ∈ ps, sc.names.lookup x = some .local
  noc : ∀ y ∈ sc.names, y.2 ≠ .cell
  sup : sc.names.lookup ("super" : Str) = some .globalImplicit
  cls : sc.names.lookup ("__class__" : Str) = some .free
  free : ∀ y, sc.names.lookup y = some .free → y = "__class__"
theorem cells1 {x : Str} {c cc : Addr} (h : List.lookup x [(("__class__" : Str), cc)] = some c) : x = "__class__" ∧ c = cc := by
  by_cases e : x = "__class__"
  · subst e
    refine ⟨rfl, ?_⟩
    simp [List.lookup] at h
    exact h.symm
  · have : (x == ("__class__" : Str)) = false := by simpa using e
    simp [List.lookup, this] at h
/-- what stands in a slot at a def's entry was handed in -/
theorem start_some {N : List Str} {vs : List V} {i : Nat} {v : V} (h : (L2.start N vs)[i]? = some (some v)) : vs[i]? = some v := by
  have h' : (vs.map some ++ List.replicate (N.length - vs.length) none)[i]? = some (some v) := h
  rcases Nat.lt_or_ge i (vs.map some).length with hi | hi
  · rw [List.getElem?_append_left hi, List.getElem?_map] at h'
    obtain ⟨a, ha, e⟩ := Option.map_eq_some_iff.mp h'
    exact ha.trans e
  · have hm := List.mem_of_getElem? ((List.getElem?_append_right hi).symm.trans h')
    exact absurd (List.eq_of_mem_replicate hm) (by simp)
theorem inv_startS {P : Program} {w : World} {K : PySem.W.Frag} {mg : Str → Option Value} {base : Heap} {N ps : List Str} {qual : Str} {scope : Scope} {f cc D : Addr} {cd cl : Value} {cld : Option Addr} {csl : Array (Option Value)} {A : Around} {outer : List Env} {s : Shared} {H : Hp} {us : List Value} {vs : List V} {h₀ : Heap} {tk : Nat}
    (S : SScope N ps scope) (hcell : K.lookup cc = some ⟨cl, cld, .cell (some (.ref D)), csl⟩) (hd : A.handled = none) (e0 : Env0 P w K mg base A outer s H) (hl : vs.length = ps.length) (r : Vals vs us)
    (hns : h₀.Ns s.heap.objs.size (fun x => (ps.zip us).reverse.lookup x)) (hk : ∀ b o, s.heap.get? b = some o → h₀.get? b = some o) :
    Inv (cxS P w K mg base N qual scope f cd cc A outer s H) [] (L2.start N vs) H { s with heap := h₀, toks := tk } := by
  have hpl : ps.length ≤ N.length := by have := congrArg List.length S.pre; rw [List.length_take] at this; omega
  have kb := e0.mod.kin _ _ hcell
  have noA : ∀ b : Addr, b ∉ (cxS P w K mg base N qual scope f cd cc A outer s H).ex := fun b z => absurd (show b ∈ ([] : List Addr) from z) (by simp)
  have look : ∀ {x : Str} {c : Addr}, (cxS P w K mg base N qual scope f cd cc A outer s H).env.cells.lookup x = some c → x = "__class__" ∧ c = cc := fun h => cells1 h
  refine ⟨⟨e0.mod, S.kind, rfl, rfl, Nat.le_refl _, fun y z c h1 h2 => (look h1).1.trans (look h2).1.symm, fun y hy => ?_, fun y c hf h => ?_, fun _ => hd, Around.frames_deeper e0.frames, .inr ⟨rfl, rfl⟩, fun b z => absurd z (noA b), e0.bs, e0.bsz, fun b _ _ => noA b, fun b z => absurd z (noA b), e0.funs, e0.frf⟩,
    rfl, e0.bare, Un.kept hk, ⟨_, hns, fun i y v h1 h2 h3 => ?_⟩, fun y c h => ?_, e0.hok.fresh (Nat.le_refl _), fun y c h => ?_, fun p hp => absurd (show p ∈ ([] : List (Addr × Obj)) from hp) (by simp), e0.hok.kept hk, ?_⟩
  · have hy : scope.names.lookup y = some .cell ∨ scope.names.lookup y = some .free := hy
    rcases hy with hy | hy
    · exact absurd rfl (S.noc _ (PySem.mem_of_lookup hy))
    · rw [S.free y hy]
      exact ⟨cc, by show List.lookup _ [(("__class__" : Str), cc)] = some cc; simp [List.lookup]⟩
  · rw [(look h).1] at hf
    exact absurd (show (!((("__class__" : Str)) == (("__class__" : Str)))) = true from hf) (by decide +kernel)
  · have hv := start_some h2
    have hi : i < vs.length := (List.getElem?_eq_some_iff.mp hv).1
    obtain ⟨u, _, rv⟩ := r.get hv
    have hy : ps[i]? = some y := by
      have e := congrArg (fun l => l[i]?) S.pre
      have e2 : (N.take ps.length)[i]? = ps[i]? := e
      rw [← e2, List.getElem?_take_of_lt (by omega)]
      exact h1
    have hn : ps.Nodup := S.pre ▸ S.nd.sublist (List.take_sublist _ _)
    exact ⟨u, rv, .inl ⟨S.par y (List.mem_of_getElem? hy), zip_lookup hn hy (by assumption)⟩⟩
  · rw [(look h).2]
    exact ⟨some (.ref D), _, hk _ _ (e0.bs _ _ kb).1, rfl⟩
  · rw [(look h).2]
    exact (e0.bs _ _ kb).2
  · show (L2.start N vs).length = N.length
    unfold L2.start
    rw [List.length_append, List.length_map, List.length_replicate]
    omega

/-- what of the text super() needs -/
structure SupAt (K : PySem.W.Frag) (P : Program) (f : Addr) (fd : FuncData) (cdv : Value) (cc C g : Addr) : Prop where
  cell : ∃ (cl : Value) (cld : Option Addr) (csl : Array (Option Value)), K.lookup cc = some ⟨cl, cld, .cell (some (.ref C)), csl⟩
  code : ∃ (cda : Addr) (ccl : Value) (cdd : Option Addr) (vs : Array Value) (ccs : Array (Option Value)) (file : Str) (tf : Tok), cdv = .ref cda ∧ K.lookup cda = some ⟨ccl, cdd, .fields vs, ccs⟩ ∧ vs[2]? = some (.str file tf) ∧ ((P.main.file : Str) == file) = true
  top : (P.main.scope.names.lookup ("super" : Str)).isSome = false
  cls : ∃ cd : ClassData, PySem.W.clsIn K C = some cd ∧ PySem.W.alongIn K "__init__" ((cd.mro.dropWhile (· != .ref C)).drop 1) = some (some (.ref g))
  sub : PySem.W.mroIn K C (.ref C) = some true
  opq : PySem.W.nsIn K cStatics "thirdparty.any" = some none
  ty : PySem.W.typeIn K (.ref g) = some (.type "function")
  fi : PySem.W.fnIn K g = true
section
variable {P : Program} {w : World} {K : PySem.W.Frag} {mg : Str → Option Value} {base : Heap} {k : Nat} {f cc C g : Addr} {name qual : Str} {params : Arguments} {rest : List Stmt} {scope : Scope} {dV kV doc pm cdv ct oc : Value} {an od : Option Addr}
  {osl : Array (Option Value)} {N : List Str} {p : Str} {ps : List Str} {sp sp2 : Sp} {p0 p1 apos cpos epos : Pos} {e : Expr} {es : List Expr} {pl : Sem Bool} {ar : Arg}
theorem fn_super {body : List Stmt} (hbd : body = .Expr (.Call (.Attribute (.Call (.Name "super" p0) [] [] p1) "__init__" apos) (e :: es) [] cpos) epos :: rest)
    (lk : K.lookup f = some ⟨oc, od, .func (PySem.W.ksFn name qual params body scope dV kV doc pm an cdv ct cc), osl⟩) (hcd : PySem.W.codeIn K cdv qual = true) (S : SScope N (p :: ps) scope)
    (W : SupAt K P f (PySem.W.ksFn name qual params body scope dV kV doc pm an cdv ct cc) cdv cc C g) (hsup : mg "super" = none) (har : (params.posonlyargs ++ params.args).head? = some ar) (hpa : ar.arg = p)
    (hb : ∀ us : List Value, us.length = (p :: ps).length → bindArgs (PySem.W.ksFn name qual params body scope dV kV doc pm an cdv ct cc) ⟨us, []⟩ = pure ((p :: ps).zip us))
    (len : ∀ vs H Q E, sp vs H Q E → vs.length = (p :: ps).length)
    (F : FnR P w K mg base CX0 k g sp2)
    (ht : ∀ (L a c : Addr) (cd : Value) (env : Env), env = PySem.W.ksEnv qual scope L a cd c → interactive env = false ∧ swapsWith (.Call (.Attribute (.Call (.Name "super" p0) [] [] p1) "__init__" apos) (e :: es) [] cpos) none epos.line env = pure false ∧ eval (.Call (.Attribute (.Call (.Name "super" p0) [] [] p1) "__init__" apos) (e :: es) [] cpos) env = (do
      let ov ← attributeBase (.Call (.Name "super" p0) [] [] p1) "__init__" env (eval (.Call (.Name "super" p0) [] [] p1) env)
      standAt apos.atName
      let (f, first) ← holding [ov] (getMethod ov "__init__" pl)
      callWith cpos f first (backTo cpos (starEach (e :: es) env)) []))
    (hstar : ∀ env : Env, starEach (e :: es) env = (false, eval e env) :: starEach es env) (hpl : ∀ env : Env, (backTo cpos (starEach es env)).any (·.1) = false)
    (hbody : ∀ (A : Around) (outer : List Env) (s : Shared) (H : Hp) (vs : List V) (Q : VK) (E : XK), sp vs H Q E →
      ∃ (x dx : Addr) (fs : List (Str × V)) (ta : TA) (tr : TS), vs[0]? = some (.ref x) ∧ H x = some (.ins C dx fs) ∧ PA (cxS P w K mg base N qual scope f cdv cc A outer s H) (e :: es) ta ∧ PSs (cxS P w K mg base N qual scope f cdv cc A outer s H) rest tr ∧
        ta (L2.start N vs) H fun ws H1 => H1 x = some (.ins C dx fs) ∧ sp2 (.ref x :: ws) H1 (fun _ H2 => tr { nx := fun _ H' => Q .non H', rt := Q } (L2.start N vs) H2) E0) :
    FnR P w K mg base CX0 (k + 1) f sp := by
  intro A outer s H us vs Q E hr e0 r hsp
  have hl := len _ _ _ _ hsp
  have KX : K.In s.heap := e0.mod.kin.keeps fun b o e => (e0.bs b o e).1
  have lim : s.heap.NoLimit := e0.mod.nolimit.keeps fun b o e => (e0.bs b o e).1
  obtain ⟨cl, cld, csl, hcell⟩ := W.cell
  obtain ⟨cda, ccl, cdd, cvs, ccs, file, tf, ecd, hcode, hvs, hfile⟩ := W.code
  obtain ⟨cdC, hcls, hal⟩ := W.cls
  subst ecd
  have hlu : us.length = (p :: ps).length := by rw [← r.length]; exact hl
  refine ks_codeAny_call_defAt (fd := PySem.W.ksFn name qual params body scope dV kV doc pm an (.ref cda) ct cc) (body := body) (binds := (p :: ps).zip us) hr.depth (KX _ _ lk) rfl lim (PySem.W.codeRec_of KX hcd) rfl (.of_eq (hb us hlu)) S.noc
    (fun y hy => S.par _ (List.of_mem_zip hy).1) (fun h₁ hns hk₁ => ?_) S.co S.gen S.kind
  obtain ⟨x, dx, fs, ta, tr, hv0, hx, hPA, hPS, hq⟩ := hbody A outer s H vs Q E hsp
  have I : Inv (cxS P w K mg base N qual scope f (.ref cda) cc A outer s H) [] (L2.start N vs) H { s with heap := h₁, toks := s.toks + ((p :: ps).zip us).length } := inv_startS S hcell hr.hd e0 hl r hns hk₁
  have key : _root_.PySem.wpAt (model P w) (cxS P w K mg base N qual scope f (.ref cda) cc A outer s H).A (.func body (cxS P w K mg base N qual scope f (.ref cda) cc A outer s H).env) (execs body (cxS P w K mg base N qual scope f (.ref cda) cc A outer s H).env)
      (SP (cxS P w K mg base N qual scope f (.ref cda) cc A outer s H) [] { nx := fun _ H' => Q .non H', rt := Q }) (fun _ _ => False) { s with heap := h₁, toks := s.toks + ((p :: ps).zip us).length } := by
    subst hbd
    have X1 := I.kIn
    obtain ⟨oD, hD1, hD2⟩ : ∃ oD, h₁.get? C = some oD ∧ oD.data = .cls cdC := by
      unfold PySem.W.clsIn at hcls
      split at hcls
      · rename_i c d cd' sl ho
        cases hcls
        exact ⟨_, X1 _ _ ho, rfl⟩
      · cases hcls
    obtain ⟨mb, hb1, hb2⟩ := I.mod.blt
    obtain ⟨m, hm, hloc⟩ := I.loc
    have hN0 : N[0]? = some p := by
      have h : (N.take (p :: ps).length)[0]? = (p :: ps)[0]? := by rw [S.pre]
      rw [List.getElem?_take_of_lt (by simp)] at h
      exact h
    have hσ0 : (L2.start N vs)[0]? = some (some (.ref x)) := by
      unfold L2.start
      have hlt : 0 < vs.length := by rw [hl]; simp
      rw [List.getElem?_append_left (by simpa using hlt), List.getElem?_map, hv0]
      rfl
    have hpl2 := S.par p List.mem_cons_self
    obtain ⟨ux, rux, lux⟩ := hloc 0 p (.ref x) hN0 hσ0 (.inl hpl2)
    cases rux
    have hmx : m p = some (.ref x) := by
      rcases lux with ⟨_, q⟩ | ⟨q, _⟩
      · exact q
      · have q1 : scope.names.lookup p = some .cell ∨ scope.names.lookup p = some .free := q
        rw [hpl2] at q1
        rcases q1 with q1 | q1 <;> cases q1
    obtain ⟨mA, OM, _⟩ := ins_get I.hok hx
    obtain ⟨odx, J, _⟩ := OM.look
    obtain ⟨og, hg1, hg2⟩ : ∃ of, K.lookup g = some of ∧ of.cls = .type "function" := by
      have ht' : (K.lookup g).map (·.cls) = some (.type "function") := W.ty
      cases z : K.lookup g with
      | none => rw [z] at ht'; cases ht'
      | some of => rw [z] at ht'; exact ⟨of, rfl, Option.some.inj ht'⟩
    refine ks_wpAt_execs_cons (ks_wpAt_Expr_any (ks_wpAt_MethodCall (pl := pl) ?_ (ht _ _ _ _ _ rfl).2.2) (ht _ _ _ _ _ rfl).1 (ht _ _ _ _ _ rfl).2.1)
    refine ks_wpAt_super_base (env := PySem.W.ksEnv qual scope s.heap.objs.size f (.ref cda) cc) S.sup S.cls (by decide +kernel) rfl (X1 _ _ lk) rfl har rfl (X1 _ _ hcode) rfl hvs hfile W.top ?_
    refine PySem.W.ks_loadName_global S.kind S.sup (Calls.loadGlobal_builtin (env := PySem.W.ksEnv qual scope s.heap.objs.size f (.ref cda) cc) (I.mod.glob.keeps I.bk) hsup (hb1.keeps I.bk) ((hb2 _ (by decide)).trans (by first | rfl | kernel_rfl)) ⟨rfl, ?_⟩)
    refine wpAny_loadName_free S.kind S.cls rfl ⟨_, X1 _ _ hcell, rfl⟩ ?_
    refine wpAny_loadName_local S.kind (by rw [hpa]; exact hpl2) hm (by rw [hpa]; exact hmx) ?_
    refine ks_wpAny_isType_cls hD1 hD2 ⟨rfl, ?_⟩
    refine ks_wpAny_call_super hD1 hD2 J.at_ J.cls (fun c e => ?_) (PySem.W.looks_mroIn X1 W.sub) (fun h' eso k => ?_)
    · exact nomatch e
    have I2 : Inv (cxS P w K mg base N qual scope f (.ref cda) cc A outer s H) [] (L2.start N vs) H { s with heap := h', toks := s.toks + ((p :: ps).zip us).length } := I.kept (t' := s.toks + ((p :: ps).zip us).length) k
    have X2 := I2.kIn
    have hxC : x ≠ C := by
      rintro rfl
      have e1 := hD1
      rw [J.at_] at e1
      cases e1
      exact nomatch hD2
    refine ks_wpAny_getMethod_super eso (PySem.W.looks_opaque X2 W.opq) (l₀ := cdC.mro) ?_ rfl X2 hal (X2 _ _ hg1) hg2 hxC (by decide +kernel) ?_
    · exact fun A Q E s k q => wpAny_bind ((PySem.W.looks_clsIn X2 hcls) A _ E s k (wpAny_pure q))
    have I3 := ClX.met_new (g := g) (C := x) I2
    refine ClX.callwith_cm I3 (ClX.base_none I2 (Nat.le_refl _)) W.fi ?_ (hstar _) (hpl _)
    refine thn (hPA.run cpos _ _ (L2.start N vs) H _ I3 hq) fun us2 s3 ⟨ws, H2, I4, rv, hx2, q2⟩ => ⟨⟨ClX.pin_at I4, I4.kIn⟩, ?_⟩
    refine wpAny_mono (ClX.run_cm (E := E0) F (hr.deeper _) pass0 I4 rv q2) (fun u s4 h4 => ?_) (fun _ _ z => z)
    obtain ⟨v4, H4, I5, _, q5⟩ := h4
    have I6 : Inv (cxS P w K mg base N qual scope f (.ref cda) cc A outer s H) [] (L2.start N vs) H4 s4 := I5
    exact wpAt_of_wpAny (hPS.run [] s4 (L2.start N vs) H4 _ I6 q5)
  refine ks_wpAt_mono key (fun fl s' hs => ?_) fun _ _ z => z.elim
  have fin : ∀ {σ' : L2.St} {H' : Hp} {v : V} {u : Value}, Inv (cxS P w K mg base N qual scope f (.ref cda) cc A outer s H) [] σ' H' s' → RelV v u → Q v H' → CE outer P w H s Q u s' :=
    fun {σ' H' v u} J rv q => ⟨v, H', J.os, J.bare, J.base, J.hok, rv, q⟩
  cases fl with
  | ret u =>
    obtain ⟨v, σ', H', J, rv, q⟩ := hs
    exact fin J rv q
  | next =>
    obtain ⟨σ', H', J, q⟩ := hs
    exact fin (v := V.non) (u := Value.none) J rfl q
  | brk =>
    obtain ⟨_, _, _, q⟩ := hs
    exact False.elim q
  | cont =>
    obtain ⟨_, _, _, q⟩ := hs
    exact False.elim q
end
end Ev
/-! Own rules for instances: a field as a target, the name of the class, truth, ==. -/
namespace Ev
open PySem PySem.Spec PyProof.Rows L2
section
variable {X : Cx}
def gFld (K : PySem.W.Frag) (ta : TE) (f : Str) : TG := fun v σ H Q => ta σ H fun x H1 => ∃ a C dx fs, x = .ref a ∧ H1 a = some (.ins C dx fs) ∧ Cls K C ∧ NoAttr K C f ∧ fs.length < 1000 ∧ Q σ (upd H1 a (.ins C dx (putF f v fs)))
theorem pg_fld {o : Expr} {f : Str} {pos : Pos} {ta : TE} (ho : PE X o ta) : PG X (.Attribute o f pos) (gFld X.K ta f) := by
  refine ⟨fun pins s σ H v u Q I r h => ?_⟩
  rw [assign_Attribute]
  refine wpAny_bind (wpAny_holding (thn (ho.run pins s σ H _ I h) fun ov s1 ⟨x, H1, I1, r1, a, C, dx, fs, ex, ea, c, n, l, q⟩ => ?_))
  subst ex
  obtain rfl : ov = Value.ref a := r1
  refine wpAny_bind (wpAny_standAt (wpAny_bind (wpAny_holding ?_)))
  refine thn (setattr_ok (Q := fun _ s' => Inv X pins σ (upd H1 a (.ins C dx (putF f v fs))) s') I1 ea c n l r fun s3 I3 => I3) fun _ s3 I3 => ?_
  exact wpAny_release ⟨σ, _, I3, q⟩
end

/-! ### x.__class__.__name__ -/
structure ClsName (K : PySem.W.Frag) (C : Addr) (nm : Str) : Prop where
  reads : PySem.W.readsIn K C (.type "type") = true
  pg : PySem.W.plainGet K C "__class__" = true
  hd : PySem.W.hasDictIn K C = true
  ha : PySem.W.findIn K (.ref C) "__class__" = some (some (.builtin "object.__class__"))
  hn : PySem.W.specialIn K (.builtin "object.__class__") "__get__" = some (some (.builtin "getset_descriptor.__get__"))
  ht : PySem.W.takesIn K (.builtin "object.__class__") = some true
  hm : PySem.W.mroIn K C (.type "object") = some true
  fnm : PySem.W.findCls K (.ref C) (.type "type") "__name__" = some (.get (.builtin "getset_descriptor.__get__") (.builtin "type.__name__") (.ref C) (.type "type"))
  lk : ∃ (c : Value) (d : Option Addr) (cd : ClassData) (sl : Array (Option Value)) (tk : Tok), K.lookup C = some ⟨c, d, .cls cd, sl⟩ ∧ sl[2]? = some (some (.str nm tk))
section
open PySem PySem.W PySem.Calls PyProof.Rows Builtin Builtin.ObjectAttr Builtin.Getset_descriptor
variable {prog : Program} {w : World} {A : Around} {E : Value → Shared → Prop} {s : Shared} {K : Frag} {R : Result → Shared → Prop} {C : Addr} {nm : Str}
theorem dga_ref (d tp : Value) (C : Addr) : descrGetArgs ⟨[d, .ref C, tp], []⟩ = pure (d, some (.ref C), given tp) := by kernel_rfl
theorem name_get {tp c : Value} {d : Option Addr} {cd : ClassData} {sl : Array (Option Value)} {tk : Tok} (ht : Looks (model prog w) s.heap (typeOf (.ref C)) (.type "type")) (ho : s.heap.get? C = some ⟨c, d, .cls cd, sl⟩) (hs : sl[2]? = some (some (.str nm tk)))
    (h : R (.ok (.ret (.str nm tk))) s) : codeAny (model prog w) A (.call (.builtin "getset_descriptor.__get__") ⟨[.builtin "type.__name__", .ref C, tp], []⟩) R s := by
  obtain ⟨hh, g, dr, t, os⟩ := s
  have L1 : Looks (model prog w) hh (isSubtype (.type "type") (.type "type")) true := Looks.of_pure (by rw [isSubtype_type]; kernel_rfl)
  refine codeAny_call_builtin KF.slot_gs.plain KF.entry_gs (KF.slot_gs.check _ _ _ _ _ _ _ _ ktyn_type (KF.args_gs _ _ _) ?_)
  unfold Builtin.«getset_descriptor.__get__» descrGet
  rw [dga_ref]
  refine wpAny_bind (wpAny_pure ?_)
  unfold descrGetter descrCheckInstance descrNameAndClass PySem.isInstance
  simp only [ktyn_owner]
  repeat lk
  refine ⟨Code.quiet_builtin _ (by decide +kernel), codeAny_builtin ktyn_entry ?_⟩
  unfold Builtin.«type.__name__»
  dsimp only
  unfold Builtin.keptObject slotAt
  refine wpAny_bind (wpAny_bind (wpAny_loadPart_at ho (wpAny_pure ?_)))
  rw [hs]
  first
    | (refine wpAny_bind ?_; refine wpAny_pure ?_; refine wpAny_pure ?_; exact h)
    | (refine wpAny_bind ?_; refine wpAny_pure ?_; exact h)
    | (refine wpAny_pure ?_; exact h)
theorem name_attr {expr : Bool} {Q : Value → Shared → Prop} (X : K.In s.heap) (N : ClsName K C nm) (h : ∀ tk u, Q (.str nm tk) { s with toks := u }) : wpAny (model prog w) A (getAttr (.ref C) "__name__" expr) Q E s := by
  obtain ⟨c, d, cd, sl, tk, ho, hs⟩ := N.lk
  refine cls_bind X N.reads N.fnm ?_
  have hr := N.reads
  unfold readsIn at hr
  simp only [Bool.and_eq_true, beq_iff_eq] at hr
  refine wpAny_call (name_get (s := { s with toks := s.toks + 1 }) (looks_typeIn X hr.1.1.1.2) (X _ _ ho) hs ?_)
  exact handed_on rfl (h _ _)
end
section
variable {X : Cx}
def tClsName (K : PySem.W.Frag) (te : TE) : TE := fun σ H Q => te σ H fun x H1 => ∃ a C dx fs nm, x = .ref a ∧ H1 a = some (.ins C dx fs) ∧ ClsName K C nm ∧ Q (.str nm) H1
theorem pe_clsName {e : Expr} {te : TE} {p1 p2 : Pos} (he : PE X e te) (hb : attributeBase e "__class__" X.env (eval e X.env) = eval e X.env := by rfl)
    (hb2 : attributeBase (.Attribute e "__class__" p1) "__name__" X.env (eval (.Attribute e "__class__" p1) X.env) = eval (.Attribute e "__class__" p1) X.env := by rfl) : PE X (.Attribute (.Attribute e "__class__" p1) "__name__" p2) (tClsName X.K te) := by
  refine ⟨fun pins s σ H Q I h => ?_⟩
  refine attr_of hb2 (attr_of hb (thn (he.run pins s σ H _ I h) fun u s1 ⟨x, H1, I1, rx, a, C, dx, fs, nm, ex, ea, N, q⟩ => ?_))
  subst ex
  obtain rfl : u = Value.ref a := rx
  obtain ⟨mA, O, _⟩ := ins_get I1.hok ea
  obtain ⟨od, J, _⟩ := O.look
  obtain ⟨m, hF⟩ := I1.fr
  refine PySem.W.get_class hF I1.ok.mod.kin J N.pg N.hd N.ha N.hn N.ht N.hm ?_
  have I2 : Inv X pins σ H1 { s1 with toks := s1.toks + 1 } := I1.tok _
  refine name_attr I2.kIn N fun tk u => ?_
  exact ⟨.str nm, H1, I2.tok u, ⟨tk, rfl⟩, q⟩
end
end Ev
namespace Ev
open PySem PySem.Spec PyProof.Rows L2
/-! ### bool(x), x == y of instances -/
section
variable {prog : Program} {w : World} {A : Around} {E : Value → Shared → Prop} {s : Shared}
theorem bool_new_in (x : Value) : MeetsIn prog w (Builtin.«bool.__new__» ⟨[.type "bool", x], []⟩) (fun A R s => wpAny (model prog w) A.in1 (truthy x) (fun b s' => R (.ok (.ret (.bool b))) s') (fun e s' => R (.error e) s') s) :=
  .of_wp fun A R s h => by
    have hsub := F.conv_sub_bool
    obtain ⟨hp, g, d, tk, os⟩ := s
    unfold Builtin.«bool.__new__»
    repeat (any_goals (first | assumption | (with_reducible refine wpAny_bind (wpAny_mono h (fun b s' hb => ?_) fun _ _ z => z)) | wp_step))
    all_goals exact ⟨_, rfl, hb⟩
theorem call_bool_any {x : Value} {Q : Value → Shared → Prop} (h : wpAny (model prog w) A.in1.in1 (truthy x) (fun b s' => Q (.bool b) s') E s) : wpAny (model prog w) A (call (.type "bool") [x]) Q E s :=
  callType_newIn F.called_bool F.newNe_bool (F.typeCall_bool_1 x) (F.newCall_bool_1 x) (fun obj => F.args_object_init_2 obj x) F.entry_bool_new (bool_new_in x)
    (wpAny_mono h (fun b s' hb => ⟨rfl, hb⟩) fun _ _ z => z)
end

/-- an instance at a whose class is C -/
def IsI (H : Hp) (a C : Addr) : Prop := ∃ dx fs, H a = some (.ins C dx fs)
/-- the class's __bool__: a def that says b -/
structure BoolFn (P : Program) (w : World) (K : PySem.W.Frag) (mg : Str → Option Value) (base : Heap) (k : Nat) (C : Addr) (b : Bool) : Prop where
  ex : ∃ f, PySem.W.findIn K (.ref C) "__bool__" = some (some (.ref f)) ∧ PySem.W.isFn K (.ref f) = true ∧ FnR P w K mg base CX0 k f (fun vs H Q _ => ∃ a, vs = [.ref a] ∧ ∀ H', Same H H' → Q (.bl b) H')
section
variable {X : Cx} {k : Nat}
theorem ce_ep {pins : List (Addr × Obj)} {σ : L2.St} {H : Hp} {s s' : Shared} {Q : VK} {r : Result} {E : XK} (I : Inv X pins σ H s) (h : CR CX0 X.stack X.prog X.w H s Q E r s') : ∃ u, r = .ok (.ret u) ∧ EP X pins σ Q u s' := by
  cases r with
  | error e => exact h.elim
  | ok fl =>
    cases fl with
    | ret u => exact ⟨u, rfl, I.after h⟩
    | next => exact False.elim h
    | brk => exact False.elim h
    | cont => exact False.elim h
theorem call_boolI (hr : Room (k + 2) X.A) : CallR X (.type "bool") (fun xs H Q => ∃ a C b, xs = [.ref a] ∧ IsI H a C ∧ BoolFn X.prog X.w X.K X.mg X.base k C b ∧ ∀ H', Same H H' → Q (.bl b) H') := by
  intro pins s σ H xs us Q I r h
  obtain ⟨a, C, b, rfl, ⟨dx, fs, hi⟩, ⟨f, hs, hf, F⟩, q⟩ := h
  obtain ⟨u, rfl, rx⟩ := vals1 r
  cases rx
  obtain ⟨mA, O, _⟩ := ins_get I.hok hi
  obtain ⟨od, J, _⟩ := O.look
  obtain ⟨m, hF⟩ := I.fr
  refine call_bool_any (PySem.W.truthy_K hF I.ok.mod.kin J hs hf ?_)
  have e0 : Env0 X.prog X.w X.K X.mg X.base X.A.in1.in1 X.stack s H := I.env0.in1.in1
  refine wpAny_call (codeAny_mono (F X.A.in1.in1 X.stack s H [.ref a] [.ref a] (fun v H' => v = .bl b ∧ Same H H') E0 hr.in1.in1 e0 (.cons rfl .nil) ⟨a, rfl, fun H' s' => ⟨rfl, s'⟩⟩) fun r s' hq => ?_)
  obtain ⟨u, rfl, v, H', I', rv, ev, sm⟩ := ce_ep I hq
  subst ev
  cases rv
  exact ⟨.bl b, H', I', rfl, q H' sm⟩
/-- x == y, x an instance whose class has a def of its own for it, y another -/
structure EqFn (P : Program) (w : World) (K : PySem.W.Frag) (mg : Str → Option Value) (base : Heap) (k : Nat) (C D : Addr) (sp : Sp) : Prop where
  ex : ∃ f, PySem.W.findIn K (.ref C) "__eq__" = some (some (.ref f)) ∧ PySem.W.isFn K (.ref f) = true ∧ FnR P w K mg base CX0 k f sp
  nf : PySem.W.notFirst K C (.ref D) = true
theorem op_eqI {sp : Sp} (hr : Room k X.A) : OpR X (compareOp .Eq) (fun x y H Q => ∃ a b C D, x = .ref a ∧ y = .ref b ∧ IsI H a C ∧ IsI H b D ∧ EqFn X.prog X.w X.K X.mg X.base k C D sp ∧ sp [.ref a, .ref b] H (fun v H' => ∃ c, v = .bl c ∧ Q (.bl c) H') E0) := by
  intro pins s σ H x y v u Q I rx ry h
  obtain ⟨a, b, C, D, rfl, rfl, ⟨dx, fs, ha⟩, ⟨dy, gs, hb⟩, ⟨⟨f, hs, hf, F⟩, nf⟩, hsp⟩ := h
  cases rx
  cases ry
  obtain ⟨mA, O, _⟩ := ins_get I.hok ha
  obtain ⟨od, J, _⟩ := O.look
  obtain ⟨mB, O', _⟩ := ins_get I.hok hb
  obtain ⟨od', J', _⟩ := O'.look
  obtain ⟨m, hF⟩ := I.fr
  show wpAny (model X.prog X.w) X.A (richCompare .Eq (.ref a) (.ref b)) (EP X pins σ Q) X.xe s
  refine PySem.W.cmp_K (op := .Eq) (tb := .ref D) (by have := hr.un; omega) hF I.ok.mod.kin J J'.type nf hs hf ?_
  refine wpAny_call (codeAny_mono (F X.A X.stack s H [.ref a, .ref b] [.ref a, .ref b] _ E0 hr I.env0 (.cons rfl (.cons rfl .nil)) hsp) fun r s' hq => ?_)
  obtain ⟨u, rfl, v, H', I', rv, c, ev, q⟩ := ce_ep I hq
  subst ev
  cases rv
  exact ⟨.bl c, H', I', rfl, q⟩
end
end Ev
/-! list(d.values()) -/
namespace Ev
open PySem PySem.Spec PyProof.Rows L2
section
variable {X : Cx} {o : Expr} {p pos apos mpos : Pos} {td : TE}
def tLstVals (td : TE) : TE := fun σ H Q => td σ H fun x H1 => ∃ a kvs, x = .ref a ∧ H1 a = some (.dK kvs) ∧ ∀ q, H1 q = none → Q (.ref q) (upd H1 q (.lst (kvs.map (·.2))))
theorem pe_listVals (hc : X.calm = true) (hg : Gl X "list") (hm : X.mg "list" = none) (hd : PE X o td) (hbase : attributeBase o "values" X.env (eval o X.env) = eval o X.env := by rfl) (hline : (apos.endLine == mpos.line) = true := by rfl)
    (hse : starEach [Expr.Call (.Attribute o "values" apos) [] [] mpos] X.env = [(false, eval (Expr.Call (.Attribute o "values" apos) [] [] mpos) X.env)] := by rfl) :
    PE X (.Call (.Name "list" p) [.Call (.Attribute o "values" apos) [] [] mpos] [] pos) (tLstVals td) := by
  refine ⟨fun pins s σ H Q I h => ?_⟩
  refine wpAny_Call_Name_kw (ld_blt I hg hm (u := .type "list") (by first | rfl | decide +kernel) ?_ (by first | decide +kernel | decide) (by first | decide +kernel | decide))
  rw [hse]
  refine PySem.callWith_type1 (wpAny_Call_method0_late hbase hline (thn (hd.run pins s σ H _ I h) fun v s1 ⟨x, H1, I1, r1, a, kvs, ex, ha, q⟩ => ?_))
  subst ex
  obtain rfl : v = Value.ref a := r1
  obtain ⟨z, hsys, vs, rel, dof⟩ := dk_of I1.hok ha
  obtain ⟨ep, dat⟩ := dof.dictAt
  have dat' := dat
  obtain ⟨ob, es, ho, ex, hdat, hko, hpr, hnd⟩ := dat'
  refine ⟨"dict", "dict.values", F.plainAttrs_dict, F.slot_dict_values, F.type_dict_values, ⟨ob, ho, ex.1⟩, fun b e => ?_, Calls.callWith_builtin rfl (PySem.evalArgs_none ?_)⟩
  · cases e
    exact ⟨ob, ho, ex.2.1⟩
  refine call_meetsIn F.slot_dict_values ⟨ob, ho, ex.1⟩ F.entry_dict_values (F.args_dict_values_1 _) (meets_dict_values (mixKind X.prog X.w) a hsys) ⟨⟨vs, dof⟩, ?_⟩
  have k1 : ∀ b u, s1.heap.get? b = some u → (s1.heap.push { cls := .type "dict_values", data := .fields #[.ref a] }).get? b = some u := fun b u e => Heap.get?_push_of_some _ e
  have dat1 : (s1.heap.push { cls := .type "dict_values", data := .fields #[.ref a] }).DictAt (mixKind X.prog X.w) a vs ep := dat.keep k1
  have hl : kvs.length = vs.length := KV.length rel
  have I2 : Inv X pins σ H1 { s1 with heap := s1.heap.push { cls := .type "dict_values", data := .fields #[.ref a] } } := I1.kept (t' := s1.toks) k1
  refine PySem.W.kdl_call (PySem.W.kdl_values (knd := mixKind X.prog X.w) (kvs := vs) (ep := ep) (r := s1.heap.objs.size) (d := a)) (I1.ok.hd hc) ⟨⟨_, Heap.get?_push_size _ rfl, rfl, rfl⟩, dat1⟩ (by rw [← hl]; exact z) fun h' tk acc' c' hkeep hS hacc => ?_
  refine ⟨.ref _, upd H1 _ (.lst (kvs.map (·.2))), I2.laid hkeep (Nat.le_refl _) (show ObjOk X.prog X.w _ _ _ (.lst (kvs.map (·.2))) from ⟨?_, acc'.toList, c', ?_, ?_⟩), rfl, q _ (I2.hok.fresh (Nat.le_refl _))⟩
  · rw [List.length_map]; exact z
  · have el : acc'.toList.length = acc'.size := by simp
    refine vals_of_at (by rw [List.length_map, el, hacc.1, hl]) fun j x w h1 h2 => ?_
    obtain ⟨k, hk⟩ := hacc.2 j w (by rw [← Array.getElem?_toList]; exact h2)
    obtain ⟨x', e1, e2⟩ := KV.at' rel hk
    rw [List.getElem?_map, e1] at h1
    cases h1
    exact e2
  · rw [Array.toArray_toList]; exact hS
end
end Ev
namespace Ev
open PySem L2 PyProof.Rows
/-! ### fixed -/
inductive Fx : V → Prop where
  | int (i : Int) : Fx (.int i)
  | str (x : Str) : Fx (.str x)
def spFx0 : Sp := fun vs H Q _ => ∃ v, vs = [v] ∧ Fx v ∧ ∀ H', Same H H' → Q v H'
def spFx1 : Sp := fun vs H Q _ => ∃ p xs, vs = [.ref p] ∧ H p = some (.tup xs) ∧ (∀ x ∈ xs, Fx x) ∧ xs.length ≤ 1000 ∧ ∀ H' q, Same H H' → H q = none → H' q = some (.tup xs) → Q (.ref q) H'
theorem pe_none {X : Cx} {e : Expr} : PE X e (fun _ _ _ => False) := ⟨fun _ _ _ _ _ _ h => h.elim⟩
section
variable {P : Program} {w : World} {K : PySem.W.Frag} {mg : Str → Option Value} {base : Heap}
theorem ok_fixed0 {f : Addr} {fd : FuncData} (F : Fun K "fixed" "fixed" sFixed f fd) (B : Bl mg) : FnOk P w K mg base CX0 1 f fd ["value"] spFx0 := by
  refine F.ok scFixed (fun vs H Q E h => ?_) (fun cdv A outer s H vs Q E hr h => ?_)
  · obtain ⟨z, rfl, _⟩ := h
    rfl
  · obtain ⟨v, rfl, hv, k⟩ := h
    refine ⟨_, pss_one (ps_ret (pe_ifExp (pt_val (pe_callB call_isiT (by rfl) B.isi boot_isinstance (pa_cons (pv 0) (pa_cons (pe_tup (pa_cons (pe_bltn (v := .ty "list") (by rfl) B.list PyProof.Rows.boot_list rfl) (pa_cons (pe_bltn (v := .ty "tuple") (by rfl) B.tuple PyProof.Rows.boot_tuple rfl) pa_nil))) pa_nil)))) pe_none (pv 0))), ?_⟩
    have fin : ∀ (H' : Hp), Same H H' → Q v H' := k
    have key : ∃ t : Value, PySem.W.kitOne K t (.type "list") = some false ∧ PySem.W.kitOne K t (.type "tuple") = some false ∧ ∀ H' : Hp, TyX K H' v t := by
      cases hv with
      | int i => exact ⟨_, kit_ty (by decide +kernel), kit_ty (by decide +kernel), fun _ => .base (.int i)⟩
      | str x => exact ⟨_, kit_ty (by decide +kernel), kit_ty (by decide +kernel), fun _ => .base (.str x)⟩
    obtain ⟨t, k1, k2, hty⟩ := key
    refine ⟨v, rfl, (by show 2 ≤ sizeLine; decide), fun p np => ?_⟩
    refine ⟨v, p, _, t, _, false, rfl, upd_same, .cons (.ty "list") (.cons (.ty "tuple") .nil), hty _, kitAny_cons k1 (fun _ => kitAny_cons k2 (fun _ => kitAny_nil) (fun h => nomatch h)) (fun h => nomatch h), ?_⟩
    exact ⟨false, rfl, ifF ⟨v, rfl, k _ (same_upd (Same.refl H) np)⟩⟩
theorem ok_fixed1 {f : Addr} {fd : FuncData} (F : Fun K "fixed" "fixed" sFixed f fd) (B : Bl mg) (bF : Binds K fd ["value"] []) (gF : mg "fixed" = some (.ref f)) : FnOk P w K mg base CX0 2 f fd ["value"] spFx1 := by
  have G0 : FnOk P w K mg base CX0 1 f fd ["value"] spFx0 := ok_fixed0 F B
  refine F.ok scFixed (fun vs H Q E h => ?_) (fun cdv A outer s H vs Q E hr h => ?_)
  · obtain ⟨p, z, rfl, _⟩ := h
    rfl
  · obtain ⟨p0, xs, rfl, hp0, hfx, hlen, k⟩ := h
    refine ⟨_, pss_one (ps_ret (pe_ifExp (pt_val (pe_callB call_isiT (by rfl) B.isi boot_isinstance (pa_cons (pv 0) (pa_cons (pe_tup (pa_cons (pe_bltn (v := .ty "list") (by rfl) B.list PyProof.Rows.boot_list rfl) (pa_cons (pe_bltn (v := .ty "tuple") (by rfl) B.tuple PyProof.Rows.boot_tuple rfl) pa_nil))) pa_nil))))
      (pe_tupleOf (by rfl) B.tuple (pe_lc (own := [("each", 1)]) (g := gName 1) (tt := tYes) rfl scFixed.nd (pi_seq (pv 0))
        (blkOk_by (own := [("each", 1)]) (N := nFixed) (sc := defScope sFixed) (by decide +kernel)) (fun _ _ _ _ _ => pg_name (i := 1) scFixed.nd rfl (Or.inl rfl)) (fun _ _ _ _ _ => pts_nil)
        (fun _ _ _ _ _ => pe_call G0 hr rfl gF F.kp bF .nil pass0 (pa_cons (pv 1) pa_nil)))) (pv 0))), ?_⟩
    refine ⟨_, rfl, (by show 2 ≤ sizeLine; decide), fun p np => ?_⟩
    have s1 : Same H (upd H p (.tup [.ty "list", .ty "tuple"])) := same_upd (Same.refl H) np
    have hp1 := s1 _ _ hp0
    refine ⟨_, p, _, .type "tuple", _, true, rfl, upd_same, .cons (.ty "list") (.cons (.ty "tuple") .nil), .base (.tup hp1), kitAny_cons (b := false) (kit_ty (by decide +kernel)) (fun _ => kitAny_cons (b := true) (kit_ty (by decide +kernel)) (fun h => nomatch h) (fun _ => rfl)) (fun h => nomatch h), ?_⟩
    refine ⟨true, rfl, ifT ?_⟩
    refine ⟨_, rfl, p0, .tup xs, xs, rfl, hp1, .inr rfl, fun D hD => ?_⟩
    have hD0 : H D = none := s1.free hD
    have hDp : p0 ≠ D := ne_of_none hp0 hD0
    refine lc_it walk_seq (fun i H2 => Same H H2 ∧ H2 D = some (.lst (xs.take i))) ⟨same_upd s1 hD, by rw [upd_same]; rfl⟩ (fun i H2 _ h => h.1 _ _ hp0) ?_ ?_
    · rintro i x H2 H3 hi ⟨s2, hd⟩ ⟨rfl, hx⟩
      refine ⟨rfl, tyes_ite ?_⟩
      refine ⟨_, rfl, _, rfl, hfx x (List.mem_of_getElem? hx), fun H4 s4 => ⟨xs.take i, s4 _ _ hd, ?_, ?_, ?_⟩⟩
      · rw [List.length_take]
        exact small1000 (by omega)
      · exact same_updN (fun b o e => s4 b o (s2 b o e)) hD0
      · rw [upd_same, List.take_succ, hx]
        rfl
    · rintro H2 ⟨s2, hd⟩
      rw [List.take_length] at hd
      refine .inl ⟨D, xs, rfl, SqL.of hd, fun q nq => ?_⟩
      exact k _ q (same_upd s2 nq) (s2.free nq) upd_same
end
end Ev
namespace Ev
open PySem L2 PyProof.Rows
/-! ### Paper.__init__ -/
structure Gd (K : PySem.W.Frag) (C : Addr) : Prop where
  cls : Cls K C
  word : NoAttr K C "word"
  parts : NoAttr K C "parts"
  states : NoAttr K C "states"
  at_ : NoAttr K C "at"
  why : NoAttr K C "why"
  state : NoAttr K C "state"
/-- all but x stands -/
def But (x : Addr) (H H' : Hp) : Prop := ∀ b o, b ≠ x → H b = some o → H' b = some o
def spPI (K : PySem.W.Frag) : Sp := fun vs H Q _ => ∃ x C dx word items, vs = .ref x :: .str word :: items ∧ items.length ≤ 5 ∧ (∀ v ∈ items, Fx v) ∧ H x = some (.ins C dx []) ∧ Gd K C ∧
  ∀ H' p, But x H H' → H p = none → H' x = some (.ins C dx [("word", .str word), ("parts", .ref p)]) → H' p = some (.tup items) → Q .non H'
section
variable {P : Program} {w : World} {K : PySem.W.Frag} {mg : Str → Option Value} {base : Heap}
theorem ok_paperInit {f fF : Addr} {fd fdF : FuncData} (F : Fun K "__init__" "Paper.__init__" sPaperInit f fd) (B : Bl mg)
    (FF : Fun K "fixed" "fixed" sFixed fF fdF) (bF : Binds K fdF ["value"] []) (gF : mg "fixed" = some (.ref fF)) : FnR P w K mg base CX0 3 f (spPI K) := by
  have G1 : FnOk P w K mg base CX0 2 fF fdF ["value"] spFx1 := ok_fixed1 FF B bF gF
  obtain ⟨oc, od, kV, doc, pm, an, cdv, ct, osl, rfl, lk, hcd⟩ := F.ex
  refine FnR.imp (StX.fn_star (ps := ["self", "word"]) (pv := "parts") (k := 2) (sp := fun vs H Q _ => ∃ x C dx word p items, vs = [.ref x, .str word, .ref p] ∧ items.length ≤ 5 ∧ (∀ v ∈ items, Fx v) ∧ H x = some (.ins C dx []) ∧ Gd K C ∧ H p = some (.tup items) ∧
      ∀ H' q, But x H H' → H q = none → H' x = some (.ins C dx [("word", .str word), ("parts", .ref q)]) → H' q = some (.tup items) → Q .non H') lk hcd scPaperInit StX.cxUp_none ?_ ?_) ?_
  · exact StX.bind_star2 (B := fun l => bindArgs (PySem.W.fnOf "__init__" "Paper.__init__" (defArgs sPaperInit) (defBody sPaperInit) (defScope sPaperInit) .none kV doc pm an cdv ct) ⟨l, []⟩) (fun _ _ => rfl) (fun _ _ _ _ => rfl)
  · intro A outer s H vs Q E hr h
    obtain ⟨x, C, dx, word, p, items, rfl, hl, hfx, hx, g, hp, k⟩ := h
    refine ⟨_, pss_cons (ps_fld (pv 0) (pv 1) rfl) (pss_one (ps_fld (pv 0) (pe_call G1 hr (by rfl) gF FF.kp bF .nil pass0 (pa_cons (pv 2) pa_nil)) rfl)), ?_⟩
    have hxp : p ≠ x := by
      rintro rfl
      rw [hx] at hp
      cases hp
    refine ⟨_, rfl, _, rfl, x, C, dx, _, rfl, hx, g.cls, g.word, by decide, ?_⟩
    have hp1 : upd H x (.ins C dx [("word", .str word)]) p = some (.tup items) := by rw [upd_ne hxp]; exact hp
    refine ⟨_, rfl, p, items, rfl, hp1, hfx, by omega, fun H2 q s2 hq hq2 => ?_⟩
    have hx2 := s2 _ _ (upd_same (H := H) (a := x) (o := .ins C dx [("word", .str word)]))
    refine ⟨_, rfl, x, C, dx, _, rfl, hx2, g.cls, g.parts, (by show 1 < 1000; decide), ?_⟩
    have hqx : q ≠ x := by
      rintro rfl
      rw [upd_same] at hq
      cases hq
    rw [upd_ne hqx] at hq
    refine k _ q (fun b o hb e => ?_) hq ?_ ?_
    · rw [upd_ne hb]
      exact s2 _ _ (by rw [upd_ne hb]; exact e)
    · rw [upd_same]
      rfl
    · rw [upd_ne hqx]
      exact hq2
  · intro vs H Q E h
    obtain ⟨x, C, dx, word, items, rfl, hl, hfx, hx, g, k⟩ := h
    refine ⟨[.ref x, .str word], items, rfl, rfl, by refine small_line ?_; omega, fun p np => ?_⟩
    have hxp : x ≠ p := ne_of_none hx np
    refine ⟨x, C, dx, word, p, items, rfl, hl, hfx, by rw [upd_ne hxp]; exact hx, g, upd_same, fun H' q hb hq hx' hq' => k H' q (fun b o hb' e => hb b o hb' ?_) ?_ hx' hq'⟩
    · rw [upd_ne (ne_of_none e np)]
      exact e
    · by_cases hqp : q = p
      · subst hqp
        exact np
      · rw [upd_ne hqp] at hq
        exact hq
end
end Ev
namespace Ev
open PySem L2 PyProof.Rows
structure FunS (K : PySem.W.Frag) (P : Program) (x qual : Str) (st : Stmt) (f : Addr) (C g : Addr) : Prop where
  ex : ∃ (cc : Addr) (oc : Value) (od : Option Addr) (kV doc pm : Value) (an : Option Addr) (cdv ct : Value) (osl : Array (Option Value)),
    K.lookup f = some ⟨oc, od, .func (PySem.W.ksFn x qual (defArgs st) (defBody st) (defScope st) .none kV doc pm an cdv ct cc), osl⟩ ∧ PySem.W.codeIn K cdv qual = true ∧ SupAt K P f (PySem.W.ksFn x qual (defArgs st) (defBody st) (defScope st) .none kV doc pm an cdv ct cc) cdv cc C g
theorem free_of {sc : Scope} (h : ∀ p ∈ sc.names, p.2 = .free → p.1 = "__class__") : ∀ y, sc.names.lookup y = some .free → y = "__class__" := fun y e => h _ (PySem.mem_of_lookup e) rfl
theorem ssWhole : SScope nWholeInit ["self", "states"] (defScope sWholeInit) := ⟨rfl, rfl, rfl, by decide +kernel, rfl, by decide +kernel, by decide +kernel, by decide +kernel, by decide +kernel, free_of (by decide +kernel)⟩
theorem ssBroken : SScope nBrokenInit ["self", "at", "why"] (defScope sBrokenInit) := ⟨rfl, rfl, rfl, by decide +kernel, rfl, by decide +kernel, by decide +kernel, by decide +kernel, by decide +kernel, free_of (by decide +kernel)⟩
theorem ssLacks : SScope nLacksInit ["self", "state"] (defScope sLacksInit) := ⟨rfl, rfl, rfl, by decide +kernel, rfl, by decide +kernel, by decide +kernel, by decide +kernel, by decide +kernel, free_of (by decide +kernel)⟩
/-! papers as data -/
inductive Pd where
  | whole (n : Int)
  | broken (at_ : Int) (why : Str)
  | lacks (st : List Nat)
def Pd.word : Pd → Str
  | .whole _ => "whole"
  | .broken _ _ => "broken"
  | .lacks _ => "lacks"
def Pd.items : Pd → List V
  | .whole n => [.int n]
  | .broken a y => [.int a, .str y]
  | .lacks st => [VT st]
def Pd.fields (p : Addr) : Pd → List (Str × V)
  | .whole n => [("word", .str "whole"), ("parts", .ref p), ("states", .int n)]
  | .broken a y => [("word", .str "broken"), ("parts", .ref p), ("at", .int a), ("why", .str y)]
  | .lacks st => [("word", .str "lacks"), ("parts", .ref p), ("state", VT st)]
def spInit (K : PySem.W.Frag) (C : Addr) (ok : Pd → Prop) : Sp := fun vs H Q _ => ∃ x dx d, ok d ∧ vs = .ref x :: d.items ∧ Gd K C ∧ H x = some (.ins C dx []) ∧
  ∀ H' p, But x H H' → H p = none → H' x = some (.ins C dx (d.fields p)) → H' p = some (.tup d.items) → Q .non H'
section
variable {P : Program} {w : World} {K : PySem.W.Frag} {mg : Str → Option Value} {base : Heap}
theorem ok_wholeInit {f C g : Addr} (F : FunS K P "__init__" "Whole.__init__" sWholeInit f C g) (hsup : mg "super" = none) (G : FnR P w K mg base CX0 3 g (spPI K)) : FnR P w K mg base CX0 4 f (spInit K C fun d => ∃ n, d = .whole n) := by
  obtain ⟨cc, oc, od, kV, doc, pm, an, cdv, ct, osl, lk, hcd, W⟩ := F.ex
  refine fn_super (C := C) (g := g) rfl lk hcd ssWhole W hsup rfl rfl (fun us hl => match us, hl with | [_, _], _ => rfl) (fun vs H Q E h => ?_) G (fun L a c cd env he => by subst he; exact ⟨rfl, rfl, rfl⟩) (fun _ => rfl) (fun _ => rfl) (fun A outer s H vs Q E h => ?_)
  · obtain ⟨x, dx, d, ⟨n, rfl⟩, rfl, _⟩ := h
    rfl
  · obtain ⟨x, dx, d, ⟨n, rfl⟩, rfl, gd, hx, k⟩ := h
    refine ⟨x, dx, [], _, _, rfl, hx, pa_cons pe_str (pa_cons (pv 1) pa_nil), pss_one (ps_fld (pv 0) (pe_ix ix_tup (pe_fld (pv 0) rfl) pe_int (fun _ _ => rfl)) rfl), ?_⟩
    refine ⟨_, rfl, hx, x, C, dx, _, [.int n], rfl, (by show 1 ≤ 5; decide), fun v hv => ?_, hx, gd, fun H' p hb hp hx' hp' => ?_⟩
    · rw [List.mem_singleton.mp hv]
      exact .int n
    · have hpx : p ≠ x := by
        rintro rfl
        rw [hx] at hp
        cases hp
      refine ⟨_, rfl, x, C, dx, _, .ref p, rfl, hx', gd.cls, gd.parts, rfl, p, _, 0, .int n, rfl, rfl, SqT.of hp', rfl, _, rfl, x, C, dx, _, rfl, hx', gd.cls, gd.states, (by show 2 < 1000; decide), ?_⟩
      refine k _ p (fun b o hb' e => ?_) hp ?_ ?_
      · rw [upd_ne hb']
        exact hb b o hb' e
      · rw [upd_same]
        rfl
      · rw [upd_ne hpx]
        exact hp'
theorem ok_lacksInit {f C g : Addr} (F : FunS K P "__init__" "Lacks.__init__" sLacksInit f C g) (hsup : mg "super" = none) (G : FnR P w K mg base CX0 3 g (spPI K)) : FnR P w K mg base CX0 4 f (spInit K C fun d => ∃ n, d = .lacks n) := by
  obtain ⟨cc, oc, od, kV, doc, pm, an, cdv, ct, osl, lk, hcd, W⟩ := F.ex
  refine fn_super (C := C) (g := g) rfl lk hcd ssLacks W hsup rfl rfl (fun us hl => match us, hl with | [_, _], _ => rfl) (fun vs H Q E h => ?_) G (fun L a c cd env he => by subst he; exact ⟨rfl, rfl, rfl⟩) (fun _ => rfl) (fun _ => rfl) (fun A outer s H vs Q E h => ?_)
  · obtain ⟨x, dx, d, ⟨n, rfl⟩, rfl, _⟩ := h
    rfl
  · obtain ⟨x, dx, d, ⟨n, rfl⟩, rfl, gd, hx, k⟩ := h
    refine ⟨x, dx, [], _, _, rfl, hx, pa_cons pe_str (pa_cons (pv 1) pa_nil), pss_one (ps_fld (pv 0) (pe_ix ix_tup (pe_fld (pv 0) rfl) pe_int (fun _ _ => rfl)) rfl), ?_⟩
    refine ⟨_, rfl, hx, x, C, dx, _, [VT n], rfl, (by show 1 ≤ 5; decide), fun v hv => ?_, hx, gd, fun H' p hb hp hx' hp' => ?_⟩
    · rw [List.mem_singleton.mp hv]
      exact .str _
    · have hpx : p ≠ x := by
        rintro rfl
        rw [hx] at hp
        cases hp
      refine ⟨_, rfl, x, C, dx, _, .ref p, rfl, hx', gd.cls, gd.parts, rfl, p, _, 0, VT n, rfl, rfl, SqT.of hp', rfl, _, rfl, x, C, dx, _, rfl, hx', gd.cls, gd.state, (by show 2 < 1000; decide), ?_⟩
      refine k _ p (fun b o hb' e => ?_) hp ?_ ?_
      · rw [upd_ne hb']
        exact hb b o hb' e
      · rw [upd_same]
        rfl
      · rw [upd_ne hpx]
        exact hp'
theorem ok_brokenInit {f C g : Addr} (F : FunS K P "__init__" "Broken.__init__" sBrokenInit f C g) (hsup : mg "super" = none) (G : FnR P w K mg base CX0 3 g (spPI K)) : FnR P w K mg base CX0 4 f (spInit K C fun d => ∃ n y, d = .broken n y) := by
  obtain ⟨cc, oc, od, kV, doc, pm, an, cdv, ct, osl, lk, hcd, W⟩ := F.ex
  refine fn_super (C := C) (g := g) rfl lk hcd ssBroken W hsup rfl rfl (fun us hl => match us, hl with | [_, _, _], _ => rfl) (fun vs H Q E h => ?_) G (fun L a c cd env he => by subst he; exact ⟨rfl, rfl, rfl⟩) (fun _ => rfl) (fun _ => rfl) (fun A outer s H vs Q E h => ?_)
  · obtain ⟨x, dx, d, ⟨n, y, rfl⟩, rfl, _⟩ := h
    rfl
  · obtain ⟨x, dx, d, ⟨n, y, rfl⟩, rfl, gd, hx, k⟩ := h
    refine ⟨x, dx, [], _, _, rfl, hx, pa_cons pe_str (pa_cons (pv 1) (pa_cons (pv 2) pa_nil)), pss_one (ps_asg (g := gTup K 2 (gCons (gFld K (tVar 0) "at") (gCons (gFld K (tVar 0) "why") gNil))) (pe_fld (pv 0) rfl) (pg_tup rfl (pgs_cons (pg_fld (pv 0)) (pgs_cons (pg_fld (pv 0)) pgs_nil)))), ?_⟩
    refine ⟨_, rfl, _, rfl, hx, x, C, dx, _, [.int n, .str y], rfl, (by show 2 ≤ 5; decide), fun v hv => ?_, hx, gd, fun H' p hb hp hx' hp' => ?_⟩
    · rcases List.mem_cons.mp hv with rfl | hv
      · exact .int n
      · rw [List.mem_singleton.mp hv]
        exact .str _
    · have hpx : p ≠ x := by
        rintro rfl
        rw [hx] at hp
        cases hp
      refine ⟨_, rfl, x, C, dx, _, .ref p, rfl, hx', gd.cls, gd.parts, rfl, p, _, rfl, SqT.of hp', rfl, _, _, rfl, _, rfl, x, C, dx, _, rfl, hx', gd.cls, gd.at_, (by show 2 < 1000; decide), ?_⟩
      refine ⟨_, _, rfl, _, rfl, x, C, dx, _, rfl, upd_same, gd.cls, gd.why, (by show 3 < 1000; decide), rfl, ?_⟩
      refine k _ p (fun b o hb' e => ?_) hp ?_ ?_
      · rw [upd_ne hb', upd_ne hb']
        exact hb b o hb' e
      · rw [upd_same]
        rfl
      · rw [upd_ne hpx, upd_ne hpx]
        exact hp'
end
end Ev
namespace Ev
open PySem L2 PyProof.Rows
def Pd.ok : Pd → Prop
  | .whole n => 0 ≤ n ∧ n ≤ 100000
  | .broken a y => 0 ≤ a ∧ a ≤ 100000 ∧ (y = "state" ∨ y = "switch" ∨ y = "again")
  | .lacks st => Mi.isSigns st = true ∧ st.length ≤ 1000
def Pd.data : Pd → List PyData
  | .whole n => [.int n]
  | .broken a y => [.int a, .str y]
  | .lacks st => [.str (T st)]
def Pd.name : Pd → Str
  | .whole _ => "Whole"
  | .broken _ _ => "Broken"
  | .lacks _ => "Lacks"
/-- the classes of the text -/
structure Cs where
  cp : Addr
  cd : Addr
  ck : Addr
  cw : Addr
  cb : Addr
  cl : Addr
def Cs.of (c : Cs) : Pd → Addr
  | .whole _ => c.cw
  | .broken _ _ => c.cb
  | .lacks _ => c.cl
def IsP (c : Cs) (H : Hp) (v : V) (d : Pd) : Prop := d.ok ∧ ∃ a dx p, v = .ref a ∧ H a = some (.ins (c.of d) dx (d.fields p)) ∧ H p = some (.tup d.items)
theorem IsP.same {c : Cs} {H H' : Hp} {v : V} {d : Pd} (h : IsP c H v d) (s : Same H H') : IsP c H' v d := by
  obtain ⟨ok, a, dx, p, e, h1, h2⟩ := h
  exact ⟨ok, a, dx, p, e, s _ _ h1, s _ _ h2⟩
def isWhole : Pd → Bool
  | .whole _ => true
  | _ => false
def isBroken : Pd → Bool
  | .broken _ _ => true
  | _ => false
/-- what of the text the papers' classes need -/
structure Wc (K : PySem.W.Frag) (mg : Str → Option Value) (c : Cs) : Prop where
  gd : ∀ d : Pd, Gd K (c.of d)
  nm : ∀ d : Pd, ClsName K (c.of d) d.name
  paper : ∀ d : Pd, PySem.W.kitOne K (.ref (c.of d)) (.ref c.cp) = some true
  denial : ∀ d : Pd, PySem.W.kitOne K (.ref (c.of d)) (.ref c.cd) = some (!isWhole d)
  walk : ∀ d : Pd, PySem.W.kitOne K (.ref (c.of d)) (.ref c.ck) = some false
  whole : ∀ d : Pd, PySem.W.kitOne K (.ref (c.of d)) (.ref c.cw) = some (isWhole d)
  broken : ∀ d : Pd, PySem.W.kitOne K (.ref (c.of d)) (.ref c.cb) = some (isBroken d)
  nf : ∀ d e : Pd, PySem.W.notFirst K (c.of d) (.ref (c.of e)) = true
  mgp : mg "Paper" = some (.ref c.cp)
  mgd : mg "Denial" = some (.ref c.cd)
  mgk : mg "Walk" = some (.ref c.ck)
  mgw : mg "Whole" = some (.ref c.cw)
  mgb : mg "Broken" = some (.ref c.cb)
  mgl : mg "Lacks" = some (.ref c.cl)
theorem Wc.ty {K : PySem.W.Frag} {mg : Str → Option Value} {c : Cs} (W : Wc K mg c) {H : Hp} {a dx : Addr} {fs : List (Str × V)} (d : Pd) (h : H a = some (.ins (c.of d) dx fs)) : TyX K H (.ref a) (.ref (c.of d)) :=
  .base (.ins h (W.gd d).cls (W.nm d).ha (W.nm d).hn (W.nm d).ht (W.nm d).hm)
def Pd.eqb : Pd → Pd → Bool
  | .whole n, .whole m => decide (n = m)
  | .broken a y, .broken b z => decide (a = b) && decide (y = z)
  | .lacks s, .lacks t => decide (s = t)
  | _, _ => false
theorem Pd.dp {K : PySem.W.Frag} {H : Hp} {p : Addr} {d : Pd} (h : H p = some (.tup d.items)) : Dp K H (.ref p) (.tuple d.data) := by
  refine .tup (SqT.of h) ?_
  cases d with
  | whole n => exact .cons (.int n) .nil
  | broken a y => exact .cons (.int a) (.cons (.str y) .nil)
  | lacks s => exact .cons (.str _) .nil
theorem signs_ok {l : List Nat} (h : Mi.isSigns l = true) : PyData.strOk (T l) = true := by
  show (T l).cps.all (· < 0x110000) = true
  rw [show (T l).cps = l.toArray from rfl, List.all_toArray]
  refine List.all_eq_true.mpr fun c hc => ?_
  have := List.all_eq_true.mp h c hc
  rw [Bool.or_eq_true] at this
  rcases this with h | h
  · rw [of_decide_eq_true h]; decide
  · rw [of_decide_eq_true h]; decide
theorem Pd.shaped {d : Pd} (h : d.ok) : SeqAt.shaped (.tuple d.data) = true := by
  cases d with
  | whole n => rfl
  | broken a y =>
    have key : ∀ z : Str, PyData.strOk z = true → SeqAt.shaped (.tuple [.int a, .str z]) = true := fun z hz => by
      show ((true && (PyData.strOk z && true)) && decide (max 0 (max 0 0) + 1 ≤ 64)) = true
      rw [hz]
      rfl
    obtain ⟨_, _, rfl | rfl | rfl⟩ := h <;> exact key _ (by decide +kernel)
  | lacks s =>
    have := signs_ok h.1
    show ((PyData.strOk (T s) && true) && decide (max 0 0 + 1 ≤ 64)) = true
    rw [this]
    rfl
theorem eqb_of {d e : Pd} (h : d.name = e.name) : PyData.eqv (.tuple d.data) (.tuple e.data) = d.eqb e := by
  have n1 : ("Whole" : Str) ≠ "Broken" := by decide +kernel
  have n2 : ("Whole" : Str) ≠ "Lacks" := by decide +kernel
  have n3 : ("Broken" : Str) ≠ "Lacks" := by decide +kernel
  cases d with
  | whole n =>
    cases e with
    | whole m => show ((n == m) && true) = decide (n = m); rw [Bool.and_true]; rfl
    | broken b z => exact absurd h n1
    | lacks t => exact absurd h n2
  | broken a y =>
    cases e with
    | whole m => exact absurd h.symm n1
    | broken b z =>
      show ((a == b) && ((y == z) && true)) = (decide (a = b) && decide (y = z))
      rw [Bool.and_true]
      rfl
    | lacks t => exact absurd h n3
  | lacks s =>
    cases e with
    | whole m => exact absurd h.symm n2
    | broken b z => exact absurd h.symm n3
    | lacks t =>
      show ((T s == T t) && true) = decide (s = t)
      rw [Bool.and_true]
      by_cases q : s = t
      · subst q; simp
      · rw [decide_eq_false q]
        simpa using fun e => q (T_inj.mp e)
theorem eqb_no {d e : Pd} (h : d.name ≠ e.name) : d.eqb e = false := by
  cases d <;> cases e <;> first | rfl | exact absurd rfl h
theorem word_of {d e : Pd} (h : d.name = e.name) : d.word = e.word := by
  have n1 : ("Whole" : Str) ≠ "Broken" := by decide +kernel
  have n2 : ("Whole" : Str) ≠ "Lacks" := by decide +kernel
  have n3 : ("Broken" : Str) ≠ "Lacks" := by decide +kernel
  cases d <;> cases e <;> first | rfl | exact absurd h n1 | exact absurd h n2 | exact absurd h n3 | exact absurd h.symm n1 | exact absurd h.symm n2 | exact absurd h.symm n3
theorem Pd.lk_word (d : Pd) (p : Addr) : (d.fields p).lookup ("word" : Str) = some (.str d.word) := by cases d <;> rfl
theorem Pd.lk_parts (d : Pd) (p : Addr) : (d.fields p).lookup ("parts" : Str) = some (.ref p) := by cases d <;> rfl
def spBl (b : Bool) : Sp := fun vs H Q _ => ∃ a, vs = [.ref a] ∧ ∀ H', Same H H' → Q (.bl b) H'
def spEqP (c : Cs) : Sp := fun vs H Q _ => ∃ v u d e, vs = [v, u] ∧ IsP c H v d ∧ IsP c H u e ∧ ∀ H', Same H H' → Q (.bl (d.eqb e)) H'
section
variable {P : Program} {w : World} {K : PySem.W.Frag} {mg : Str → Option Value} {base : Heap}
theorem ok_paperBool {f : Addr} {fd : FuncData} (F : Fun K "__bool__" "Paper.__bool__" sPaperBool f fd) : FnOk P w K mg base CX0 1 f fd ["self"] (spBl true) := by
  refine F.ok scPaperBool (fun vs H Q E h => ?_) (fun cdv A outer s H vs Q E hr h => ?_)
  · obtain ⟨z, rfl, _⟩ := h
    rfl
  · obtain ⟨a, rfl, k⟩ := h
    exact ⟨_, pss_one (ps_ret pe_bl), k _ (Same.refl H)⟩
theorem ok_denialBool {f : Addr} {fd : FuncData} (F : Fun K "__bool__" "Denial.__bool__" sDenialBool f fd) : FnOk P w K mg base CX0 1 f fd ["self"] (spBl false) := by
  refine F.ok scDenialBool (fun vs H Q E h => ?_) (fun cdv A outer s H vs Q E hr h => ?_)
  · obtain ⟨z, rfl, _⟩ := h
    rfl
  · obtain ⟨a, rfl, k⟩ := h
    exact ⟨_, pss_one (ps_ret pe_bl), k _ (Same.refl H)⟩
theorem ok_paperEq {f : Addr} {fd : FuncData} {c : Cs} (F : Fun K "__eq__" "Paper.__eq__" sPaperEq f fd) (B : Bl mg) (W : Wc K mg c) : FnOk P w K mg base CX0 1 f fd ["self", "other"] (spEqP c) := by
  refine F.ok scPaperEq (fun vs H Q E h => ?_) (fun cdv A outer s H vs Q E hr h => ?_)
  · obtain ⟨v, u, d, e, rfl, _⟩ := h
    rfl
  · obtain ⟨v, u, d, e, rfl, ⟨ok1, a, dx, p, rfl, ha, hp⟩, ⟨ok2, b, dy, q, rfl, hb, hq⟩, k⟩ := h
    refine ⟨_, pss_cons (ps_if (pw_or (pt_not (pt_val (pe_callB call_isi (by rfl) B.isi boot_isinstance (pa_cons (pv 1) (pa_cons (pe_glob (v := .ref c.cp) (by rfl) W.mgp rfl) pa_nil)))))
        (pw_or1 (pt_cmpR op_ne (pe_clsName (pv 1)) (pe_clsName (pv 0)) (nomark _)))).pt
        (pss_one (ps_ret pe_bl)) pss_nil)
      (pss_one (ps_ret (pe_callTy call_bool1 (by rfl) B.bool PyProof.Rows.boot_bool (pa_cons (pe_and (pe_cmpR op_eq (pe_fld (pv 1) rfl) (pe_fld (pv 0) rfl) (nomark _)) (pe_one (pe_cmpR (op_eqD (room64 hr)) (pe_fld (pv 1) rfl) (pe_fld (pv 0) rfl) (nomark _)))) pa_nil)))), ?_⟩
    refine ⟨_, rfl, _, .ref c.cp, _, _, true, rfl, .own c.cp, W.ty e hb, W.paper e, true, rfl, ifF ?_⟩
    refine ⟨_, rfl, b, _, dy, _, _, rfl, hb, W.nm e, _, rfl, a, _, dx, _, _, rfl, ha, W.nm d, rfl, _, rfl, ?_⟩
    show if (!decide (V.str e.name = V.str d.name)) = true then _ else _
    have kk := k _ (Same.refl H)
    by_cases hn : d.name = e.name
    · rw [show decide (V.str e.name = V.str d.name) = true by rw [hn]; simp]
      refine ifF ?_
      refine ⟨_, rfl, b, _, dy, _, _, rfl, hb, (W.gd e).cls, (W.gd e).word, e.lk_word q, _, rfl, a, _, dx, _, _, rfl, ha, (W.gd d).cls, (W.gd d).word, d.lk_word p, rfl, true, ?_, ifT ?_⟩
      · rw [word_of hn]
        simp
      refine ⟨_, rfl, b, _, dy, _, _, rfl, hb, (W.gd e).cls, (W.gd e).parts, e.lk_parts q, _, rfl, a, _, dx, _, _, rfl, ha, (W.gd d).cls, (W.gd d).parts, d.lk_parts p, _, _, Pd.dp hq, Pd.dp hp, Pd.shaped ok2, Pd.shaped ok1, .inr ⟨_, rfl, ?_⟩⟩
      have e1 : PyData.eqv (.tuple e.data) (.tuple d.data) = d.eqb e := by
        rw [eqb_of hn.symm]
        cases d <;> cases e <;> simp [Pd.eqb, eq_comm]
      rw [e1]
      exact kk
    · rw [show decide (V.str e.name = V.str d.name) = false from decide_eq_false fun z => hn (by injection z with z; exact z.symm)]
      rw [eqb_no hn] at kk
      exact ifT kk
end
end Ev
namespace Ev
open PySem L2 PyProof.Rows
/-- the papers' own methods -/
structure Wm (P : Program) (w : World) (K : PySem.W.Frag) (mg : Str → Option Value) (base : Heap) (c : Cs) : Prop where
  eqf : ∃ f, PySem.W.isFn K (.ref f) = true ∧ FnR P w K mg base CX0 1 f (spEqP c) ∧ ∀ d : Pd, PySem.W.findIn K (.ref (c.of d)) "__eq__" = some (some (.ref f))
  bl : ∀ d : Pd, BoolFn P w K mg base 1 (c.of d) (isWhole d)
def spAlike (c : Cs) : Sp := fun vs H Q _ => ∃ v u d e, vs = [v, u] ∧ IsP c H v d ∧ IsP c H u e ∧ ∀ H', Same H H' → Q (.bl (d.eqb e)) H'
def Pd.told : Pd → List V
  | .whole n => [.str "whole", .int n]
  | .broken a y => [.str "broken", .int a, .str y]
  | .lacks st => [.str "lacks", VT st]
def spTold (c : Cs) : Sp := fun vs H Q _ => ∃ v d, vs = [v] ∧ IsP c H v d ∧ ∀ H' q, Same H H' → H q = none → H' q = some (.tup d.told) → Q (.ref q) H'
theorem same_tr {H1 H2 H3 : Hp} (a : Same H1 H2) (b : Same H2 H3) : Same H1 H3 := fun x o e => b x o (a x o e)
theorem notBool {K : PySem.W.Frag} {d : Pd} {v : V} (h : v ∈ d.items) : ∃ t : Value, PySem.W.kitOne K t (.type "bool") = some false ∧ ∀ H' : Hp, TyX K H' v t := by
  have i1 : ∀ i : Int, ∃ t : Value, PySem.W.kitOne K t (.type "bool") = some false ∧ ∀ H' : Hp, TyX K H' (.int i) t := fun i => ⟨_, kit_ty (by decide +kernel), fun _ => .base (.int i)⟩
  have i2 : ∀ x : Str, ∃ t : Value, PySem.W.kitOne K t (.type "bool") = some false ∧ ∀ H' : Hp, TyX K H' (.str x) t := fun i => ⟨_, kit_ty (by decide +kernel), fun _ => .base (.str i)⟩
  cases d with
  | whole n => rw [List.mem_singleton.mp h]; exact i1 n
  | broken a y =>
    rcases List.mem_cons.mp h with rfl | h
    · exact i1 a
    · rw [List.mem_singleton.mp h]; exact i2 y
  | lacks s => rw [List.mem_singleton.mp h]; exact i2 _
section
variable {P : Program} {w : World} {K : PySem.W.Frag} {mg : Str → Option Value} {base : Heap}
theorem ok_alike {f : Addr} {fd : FuncData} {c : Cs} (F : Fun K "tells_alike" "tells_alike" sTells f fd) (B : Bl mg) (W : Wc K mg c) (M : Wm P w K mg base c) : FnOk P w K mg base CX0 2 f fd ["value", "paper"] (spAlike c) := by
  obtain ⟨fe, hfe, FE, hfi⟩ := M.eqf
  refine F.ok scTells (fun vs H Q E h => ?_) (fun cdv A outer s H vs Q E hr h => ?_)
  · obtain ⟨v, u, d, e, rfl, _⟩ := h
    rfl
  · obtain ⟨v, u, d, e, rfl, P1, P2, k⟩ := h
    obtain ⟨ok1, a, dx, p, rfl, ha, hp⟩ := id P1
    obtain ⟨ok2, b, dy, q, rfl, hb, hq⟩ := id P2
    refine ⟨_, pss_cons (ps_if (pw_or (pt_not (pt_val (pe_callB call_isi (by rfl) B.isi boot_isinstance (pa_cons (pv 0) (pa_cons (pe_glob (v := .ref c.cp) (by rfl) W.mgp rfl) pa_nil)))))
        (pw_or1 (pt_not (pt_cmpR (op_eqI (sp := spEqP c) hr) (pv 0) (pv 1) (nomark _))))).pt
        (pss_one (ps_ret pe_bl)) pss_nil)
      (pss_one (ps_ret (pe_not (pe_callB (cr_any rfl) (by rfl) B.any PyProof.Rows.boot_any (pa_cons (pe_lc (own := [("part", 2)]) (g := gName 2) (tt := tYes) (te := tCB (rIsi K) (tCons (tVar 2) (tCons (tC (.ty "bool")) tNil))) rfl scTells.nd (pi_seq (pe_fld (pv 0) rfl))
        (blkOk_by (own := [("part", 2)]) (N := nTells) (sc := defScope sTells) (by decide +kernel)) (fun _ _ _ _ _ => pg_name (i := 2) scTells.nd rfl (Or.inl rfl)) (fun _ _ _ _ _ => pts_nil)
        (fun _ _ _ _ _ => pe_callB call_isi (by rfl) B.isi boot_isinstance (pa_cons (pv 2) (pa_cons (pe_bltn (v := .ty "bool") (by rfl) B.bool PyProof.Rows.boot_bool rfl) pa_nil)))) pa_nil))))), ?_⟩
    refine ⟨_, rfl, _, .ref c.cp, _, _, true, rfl, .own c.cp, W.ty d ha, W.paper d, true, rfl, ifF ?_⟩
    refine ⟨_, rfl, _, rfl, a, b, c.of d, c.of e, rfl, rfl, ⟨dx, _, ha⟩, ⟨dy, _, hb⟩, ⟨⟨fe, hfi d, hfe, FE⟩, W.nf d e⟩, _, _, d, e, rfl, P1, P2, fun H2 s2 => ⟨_, rfl, ?_⟩⟩
    refine ⟨_, rfl, ?_⟩
    cases heq : d.eqb e with
    | false =>
      rw [heq] at k
      exact ifT (k _ s2)
    | true =>
      rw [heq] at k
      refine ifF ⟨_, rfl, a, _, dx, _, _, rfl, s2 _ _ ha, (W.gd d).cls, (W.gd d).parts, d.lk_parts p, p, _, d.items, rfl, s2 _ _ hp, .inr rfl, fun D hD => ?_⟩
      refine lc_it walk_seq (fun i H3 => Same H H3 ∧ H3 D = some (.lst ((List.replicate i false).map V.bl))) ⟨same_upd s2 hD, upd_same⟩ (fun i H3 _ h => h.1 _ _ hp) ?_ ?_
      · rintro i x H3 H4 hi ⟨s3, hd⟩ ⟨rfl, hx⟩
        obtain ⟨t, k1, hty⟩ := notBool (K := K) (List.mem_of_getElem? hx)
        have hlen : d.items.length ≤ 2 := by cases d <;> simp [Pd.items]
        refine ⟨rfl, tyes_ite ?_⟩
        refine ⟨_, rfl, x, .ty "bool", t, .type "bool", false, rfl, .ty "bool", hty _, k1, _, hd, ?_, same_updN s3 (s2.free hD), ?_⟩
        · rw [List.length_map, List.length_replicate]
          exact small1000 (by omega)
        · rw [upd_same, List.replicate_succ']
          simp
      · rintro H3 ⟨s3, hd⟩
        refine ⟨D, _, rfl, SqL.of hd, _, rfl, ?_⟩
        have e1 : (List.replicate d.items.length false).any id = false := by
          rw [List.any_eq_false]
          intro x hx
          rw [(List.mem_replicate.mp hx).2]
          simp
        rw [e1]
        exact k _ s3
theorem ok_told {f : Addr} {fd : FuncData} {c : Cs} (F : Fun K "_law_told" "_law_told" sTold f fd) (B : Bl mg) (W : Wc K mg c) (M : Wm P w K mg base c) : FnOk P w K mg base CX0 4 f fd ["_law_paper"] (spTold c) := by
  refine F.ok scTold (fun vs H Q E h => ?_) (fun cdv A outer s H vs Q E hr h => ?_)
  · obtain ⟨v, d, rfl, _⟩ := h
    rfl
  · obtain ⟨v, d, rfl, P1, k⟩ := h
    obtain ⟨ok1, a, dx, p, rfl, ha, hp⟩ := id P1
    refine ⟨_, pss_cons (ps_if (pw_and (pt_val (pe_callB call_isiT (by rfl) B.isi boot_isinstance (pa_cons (pv 0) (pa_cons (pe_tup (pa_cons (pe_glob (v := .ref c.ck) (by rfl) W.mgk rfl) (pa_cons (pe_glob (v := .ref c.cw) (by rfl) W.mgw rfl) pa_nil))) pa_nil))))
        (pw_and (pt_not (pt_val (pe_callB call_isi (by rfl) B.isi boot_isinstance (pa_cons (pv 0) (pa_cons (pe_glob (v := .ref c.cd) (by rfl) W.mgd rfl) pa_nil)))))
        (pw_and1 (pt_cmpR op_isBl (pe_callTy (call_boolI (k := 1) hr) (by rfl) B.bool PyProof.Rows.boot_bool (pa_cons (pv 0) pa_nil)) pe_bl (nomark _))))).pt
        (pss_one (ps_ret (pe_tup (pa_cons (pe_ifExp (pt_val (pe_callB call_isi (by rfl) B.isi boot_isinstance (pa_cons (pv 0) (pa_cons (pe_glob (v := .ref c.ck) (by rfl) W.mgk rfl) pa_nil)))) pe_str pe_str) (pa_cons (pe_fld (pv 0) rfl) pa_nil))))) pss_nil)
      (pss_cons (ps_if (pw_or (pt_not (pt_val (pe_callB call_isi (by rfl) B.isi boot_isinstance (pa_cons (pv 0) (pa_cons (pe_glob (v := .ref c.cd) (by rfl) W.mgd rfl) pa_nil)))))
        (pw_or1 (pt_cmpR op_notBl (pe_callTy (call_boolI (k := 1) hr) (by rfl) B.bool PyProof.Rows.boot_bool (pa_cons (pv 0) pa_nil)) pe_bl (nomark _)))).pt
        (pss_one (ps_ret pe_non)) pss_nil)
      (pss_one (ps_ret (pe_ifExp (pt_val (pe_callB call_isi (by rfl) B.isi boot_isinstance (pa_cons (pv 0) (pa_cons (pe_glob (v := .ref c.cb) (by rfl) W.mgb rfl) pa_nil))))
        (pe_tup (pa_cons pe_str (pa_cons (pe_fld (pv 0) rfl) (pa_cons (pe_fld (pv 0) rfl) pa_nil)))) (pe_tup (pa_cons pe_str (pa_cons (pe_fld (pv 0) rfl) pa_nil))))))), ?_⟩
    refine ⟨_, rfl, (by show 2 ≤ sizeLine; decide), fun tp ntp => ?_⟩
    have s1 : Same H (upd H tp (.tup [.ref c.ck, .ref c.cw])) := same_upd (Same.refl H) ntp
    have ha1 := s1 _ _ ha
    refine ⟨_, tp, _, _, _, isWhole d, rfl, upd_same, .cons (.own c.ck) (.cons (.own c.cw) .nil), W.ty d ha1, kitAny_cons (W.walk d) (fun _ => kitAny_cons (W.whole d) (fun h => by rw [h]; exact kitAny_nil) (fun h => h)) (fun h => nomatch h), isWhole d, rfl, ?_⟩
    cases d with
    | whole n =>
      refine ifT ⟨_, rfl, _, .ref c.cd, _, _, false, rfl, .own c.cd, W.ty (.whole n) ha1, W.denial (.whole n), false, rfl, ifT ?_⟩
      refine ⟨_, rfl, a, _, true, rfl, ⟨dx, _, ha1⟩, M.bl (.whole n), fun H2 s2 => ⟨true, true, rfl, rfl, true, rfl, ifT ?_⟩⟩
      have s3 := same_tr s1 s2
      refine ⟨_, rfl, _, .ref c.ck, _, _, false, rfl, .own c.ck, W.ty (.whole n) (s3 _ _ ha), W.walk (.whole n), false, rfl, ifF ?_⟩
      refine ⟨_, rfl, a, _, dx, _, .int n, rfl, s3 _ _ ha, (W.gd (.whole n)).cls, (W.gd (.whole n)).states, rfl, (by show 2 ≤ sizeLine; decide), fun q nq => ?_⟩
      exact k _ q (same_upd s3 nq) (s3.free nq) upd_same
    | broken n y =>
      refine ifF (ifF ⟨_, rfl, _, .ref c.cd, _, _, true, rfl, .own c.cd, W.ty (.broken n y) ha1, W.denial (.broken n y), true, rfl, ifF ?_⟩)
      refine ⟨_, rfl, a, _, false, rfl, ⟨dx, _, ha1⟩, M.bl (.broken n y), fun H2 s2 => ⟨false, false, rfl, rfl, false, rfl, ifF ?_⟩⟩
      have s3 := same_tr s1 s2
      refine ⟨_, rfl, _, .ref c.cb, _, _, true, rfl, .own c.cb, W.ty (.broken n y) (s3 _ _ ha), W.broken (.broken n y), true, rfl, ifT ?_⟩
      refine ⟨_, rfl, a, _, dx, _, .int n, rfl, s3 _ _ ha, (W.gd (.broken n y)).cls, (W.gd (.broken n y)).at_, rfl, _, rfl, a, _, dx, _, .str y, rfl, s3 _ _ ha, (W.gd (.broken n y)).cls, (W.gd (.broken n y)).why, rfl, (by show 3 ≤ sizeLine; decide), fun q nq => ?_⟩
      exact k _ q (same_upd s3 nq) (s3.free nq) upd_same
    | lacks y =>
      refine ifF (ifF ⟨_, rfl, _, .ref c.cd, _, _, true, rfl, .own c.cd, W.ty (.lacks y) ha1, W.denial (.lacks y), true, rfl, ifF ?_⟩)
      refine ⟨_, rfl, a, _, false, rfl, ⟨dx, _, ha1⟩, M.bl (.lacks y), fun H2 s2 => ⟨false, false, rfl, rfl, false, rfl, ifF ?_⟩⟩
      have s3 := same_tr s1 s2
      refine ⟨_, rfl, _, .ref c.cb, _, _, false, rfl, .own c.cb, W.ty (.lacks y) (s3 _ _ ha), W.broken (.lacks y), false, rfl, ifF ?_⟩
      refine ⟨_, rfl, a, _, dx, _, VT y, rfl, s3 _ _ ha, (W.gd (.lacks y)).cls, (W.gd (.lacks y)).state, rfl, (by show 2 ≤ sizeLine; decide), fun q nq => ?_⟩
      exact k _ q (same_upd s3 nq) (s3.free nq) upd_same
end
end Ev
namespace Ev
open PySem L2 PyProof.Rows
/-! ### the judgement of a walk, as the text tells it twice -/
def txt : V → List Nat
  | .str s => s.cps.toList
  | _ => []
def badAt (xs : List V) (i : Nat) : Option Str :=
  if isStV (xs.getD i .non) = false ∨ (txt (xs.getD i .non)).length ≠ (txt (xs.getD 0 .non)).length then some ("state" : Str)
  else if 0 < i ∧ Mi.unlike (txt (xs.getD (i - 1) .non)) (txt (xs.getD i .non)) ≠ 1 then some ("switch" : Str)
  else if xs.getD i .non ∈ xs.take i then some ("again" : Str) else none
def judgeGo (xs : List V) : Nat → Nat → Option (Nat × Str)
  | _, 0 => none
  | i, n + 1 => match badAt xs i with
    | some k => some (i, k)
    | none => judgeGo xs (i + 1) n
def judge (xs : List V) : Option (Nat × Str) := judgeGo xs 0 xs.length
theorem judge_from {xs : List V} : ∀ (i n : Nat), (∀ j, i ≤ j → j < i + n → badAt xs j = none) → ∀ m, judgeGo xs i (n + m) = judgeGo xs (i + n) m
  | i, 0, _, m => by rw [Nat.zero_add]; rfl
  | i, n + 1, h, m => by
    rw [show n + 1 + m = (n + m) + 1 by omega]
    show (match badAt xs i with | some k => some (i, k) | none => judgeGo xs (i + 1) (n + m)) = _
    rw [h i (Nat.le_refl _) (by omega)]
    show judgeGo xs (i + 1) (n + m) = _
    rw [judge_from (i + 1) n (fun j a b => h j (by omega) (by omega)) m]
    congr 1
    omega
theorem judge_hit {xs : List V} {i : Nat} {k : Str} (h : ∀ j, j < i → badAt xs j = none) (hi : i < xs.length) (hk : badAt xs i = some k) : judge xs = some (i, k) := by
  have e := judge_from 0 i (fun j _ b => h j (by omega)) (xs.length - i)
  rw [show i + (xs.length - i) = xs.length by omega] at e
  unfold judge
  rw [e, show xs.length - i = (xs.length - i - 1) + 1 by omega, Nat.zero_add]
  show (match badAt xs i with | some k => some (i, k) | none => judgeGo xs (i + 1) (xs.length - i - 1)) = _
  rw [hk]
theorem judge_none {xs : List V} (h : ∀ j, j < xs.length → badAt xs j = none) : judge xs = none := by
  have e := judge_from 0 xs.length (fun j _ b => h j (by omega)) 0
  exact e
theorem stV_txt {x : V} (h : isStV x = true) : ∃ l, x = VT l ∧ Mi.isSt l = true := by
  cases x with
  | str s => exact ⟨s.cps.toList, by simp [VT, T], h⟩
  | _ => exact nomatch h
theorem bad_good {xs : List V} {i : Nat} (h : badAt xs i = none) : ∃ l, xs.getD i .non = VT l ∧ Mi.isSt l = true ∧ l.length = (txt (xs.getD 0 .non)).length := by
  unfold badAt at h
  by_cases c : isStV (xs.getD i .non) = false ∨ (txt (xs.getD i .non)).length ≠ (txt (xs.getD 0 .non)).length
  · rw [if_pos c] at h
    cases h
  · have c1 : isStV (xs.getD i .non) = true := by
      cases q : isStV (xs.getD i .non) with
      | true => rfl
      | false => exact absurd (.inl q) c
    obtain ⟨l, e, hs⟩ := stV_txt c1
    have c2 : (txt (xs.getD i .non)).length = (txt (xs.getD 0 .non)).length := Decidable.byContradiction fun q => c (.inr q)
    rw [e] at c2
    exact ⟨l, e, hs, c2⟩
theorem unlike_comm {a b : List Nat} (h : a.length = b.length) : Mi.unlike a b = Mi.unlike b a := by
  unfold Mi.unlike
  rw [h]
  congr 2
  funext i
  by_cases q : a.getD i 0 = b.getD i 0
  · rw [decide_eq_true q, decide_eq_true q.symm]
  · rw [decide_eq_false q, decide_eq_false fun e => q e.symm]
theorem isSt_len {l : List Nat} (h : Mi.isSt l = true) : l.length ≤ 401 ∧ 3 ≤ l.length ∧ Mi.isSigns l = true := by
  unfold Mi.isSt at h
  simp only [Bool.and_eq_true, decide_eq_true_eq] at h
  exact ⟨h.1.2, h.1.1.2, h.1.1.1.1⟩
theorem getD_of {xs : List V} {i : Nat} {x : V} (h : xs[i]? = some x) : xs.getD i .non = x := by simp [h]
theorem getD_in {xs : List V} {i : Nat} (h : i < xs.length) : xs[i]? = some (xs.getD i .non) := by simp [h]
theorem cutV_to (xs : List V) (i : Nat) : cutV xs none (some (i : Nat)) = xs.take i := by
  unfold cutV
  rw [HT.sIx_none, HT.sIx_nat, List.drop_zero, Nat.sub_zero]
  by_cases h : i ≤ xs.length
  · rw [Nat.min_eq_left h]
  · rw [Nat.min_eq_right (by omega), List.take_of_length_le (Nat.le_refl _), List.take_of_length_le (by omega)]
theorem cutV_from (xs : List V) (i : Nat) : cutV xs (some (i : Nat)) none = xs.drop i := by
  unfold cutV
  rw [HT.sIx_none, HT.sIx_nat]
  by_cases h : i ≤ xs.length
  · rw [Nat.min_eq_left h, List.take_of_length_le (by rw [List.length_drop]; omega)]
  · rw [Nat.min_eq_right (by omega), Nat.sub_self, List.take_zero, List.drop_eq_nil_of_le (by omega)]
theorem inV_txt {l : List Nat} : ∀ {ys : List V}, (∀ y ∈ ys, ∃ a, y = VT a) → inV (VT l) ys = decide (VT l ∈ ys)
  | [], _ => by simp [inV]
  | y :: ys, h => by
    obtain ⟨a, rfl⟩ := h y List.mem_cons_self
    show ((T a == T l) || inV (VT l) ys) = _
    rw [inV_txt fun y hy => h y (List.mem_cons_of_mem _ hy)]
    by_cases q : a = l
    · subst q; simp
    · have q2 : VT a ≠ VT l := fun e => q (by injection e with e; exact T_inj.mp e)
      have q3 : (T a == T l) = false := by simpa using fun e => q (T_inj.mp e)
      rw [q3, Bool.false_or]
      congr 1
      simp [q2.symm]
theorem flat_txt : ∀ {ys : List V}, (∀ y ∈ ys, ∃ a, y = VT a) → ys.all flatV = true
  | [], _ => rfl
  | y :: ys, h => by
    obtain ⟨a, rfl⟩ := h y List.mem_cons_self
    rw [List.all_cons, flat_txt fun y hy => h y (List.mem_cons_of_mem _ hy)]
    rfl
theorem good_take {xs : List V} {i : Nat} (h : ∀ j, j < i → badAt xs j = none) (hi : i ≤ xs.length) : ∀ y ∈ xs.take i, ∃ a, y = VT a := by
  intro y hy
  obtain ⟨j, hj⟩ := List.mem_iff_getElem?.mp hy
  have hj2 : j < i := by
    have := (List.getElem?_eq_some_iff.mp hj).1
    rw [List.length_take] at this
    omega
  rw [List.getElem?_take_of_lt hj2] at hj
  obtain ⟨l, e, _⟩ := bad_good (h j hj2)
  rw [getD_of hj] at e
  exact ⟨l, e⟩
def jItems (xs : List V) : List V := match judge xs with
  | some (i, k) => [.str "broken", .int (i : Nat), .str k]
  | none => [.str "walk", .int (xs.length : Nat)]
def spJudged : Sp := fun vs H Q _ => ∃ a xs, vs = [.ref a] ∧ H a = some (.lst xs) ∧ (∀ x ∈ xs, Okv H x) ∧ xs.length ≤ 5000 ∧ ∀ H' q, Same H H' → H q = none → H' q = some (.tup (jItems xs)) → Q (.ref q) H'
section
variable {P : Program} {w : World} {K : PySem.W.Frag} {mg : Str → Option Value} {base : Heap}
theorem ok_judged {f fS : Addr} {fd fdS : FuncData} (F : Fun K "_law_judged" "_law_judged" sJudged f fd) (B : Bl mg)
    (FS : Fun K "_law_is_state" "_law_is_state" sIsSt fS fdS) (bS : Binds K fdS ["_law_value"] []) (gS : mg "_law_is_state" = some (.ref fS)) : FnOk P w K mg base CX0 2 f fd ["_law_states"] spJudged := by
  have GS : FnOk P w K mg base CX0 1 fS fdS ["_law_value"] (spVB isStV) := ok_isSt FS B
  refine F.ok scJudged (fun vs H Q E h => ?_) (fun cdv A outer s H vs Q E hr h => ?_)
  · obtain ⟨a, xs, rfl, _⟩ := h
    rfl
  · obtain ⟨a, xs, rfl, ha, hok, hlen, k⟩ := h
    refine ⟨_, pss_cons (ps_for PassesOwn.never rfl (pi_enumS (by rfl) B.enum (pa_cons (pv 0) pa_nil)) (pg_tup rfl (pgs_cons (pg_name (i := 1) scJudged.nd rfl (Or.inr rfl)) (pgs_cons (pg_name (i := 2) scJudged.nd rfl (Or.inr rfl)) pgs_nil)))
        (pss_cons (ps_if (pw_or (pt_not (pt_val (pe_call GS hr (by rfl) gS FS.kp bS .nil pass0 (pa_cons (pv 2) pa_nil))))
            (pw_or1 (pt_cmpR op_ne (pe_callB call_len (by rfl) B.len PySem.boot_len (pa_cons (pv 2) pa_nil)) (pe_callB call_len (by rfl) B.len PySem.boot_len (pa_cons (pe_ix ix_list (pv 0) pe_int (fun _ _ => rfl)) pa_nil)) (nomark _)))).pt
          (pss_one (ps_ret (pe_tup (pa_cons pe_str (pa_cons (pv 1) (pa_cons pe_str pa_nil)))))) pss_nil)
        (pss_cons (ps_if (pw_and (pt_cmpR op_gt (pv 1) pe_int (nomark _))
            (pw_and1 (pt_cmpR op_ne (pe_callB call_len_seq (by rfl) B.len PySem.boot_len (pa_cons (pe_lc (own := [("_law_lamp", 3)]) (g := gName 3) (tt := tTest (tOp rNe (tOp rIxS (tVar 2) (tVar 3)) (tOp rIxS (tOp (rIxL K) (tVar 0) (tOp (rI0 fun i j => .int (i - j)) (tVar 1) (tC (.int 1)))) (tVar 3)))) rfl scJudged.nd
                (pi_range1 (by rfl) B.range (pa_cons (pe_callB call_len (by rfl) B.len PySem.boot_len (pa_cons (pv 2) pa_nil)) pa_nil))
                (blkOk_by (own := [("_law_lamp", 3)]) (N := nJudged) (sc := defScope sJudged) (by decide +kernel)) (fun _ _ _ _ _ => pg_name (i := 3) scJudged.nd rfl (Or.inl rfl))
                (fun _ _ _ _ _ => pts_one (pt_cmpR op_ne (pe_ix ix_str (pv 2) (pv 3) (fun _ _ => rfl)) (pe_ix ix_str (pe_ix ix_list (pv 0) (pe_op op_sub (pv 1) pe_int) (fun _ _ => rfl)) (pv 3) (fun _ _ => rfl)) (nomark _)))
                (fun _ _ _ _ _ => pv 3)) pa_nil)) pe_int (nomark _)))).pt
          (pss_one (ps_ret (pe_tup (pa_cons pe_str (pa_cons (pv 1) (pa_cons pe_str pa_nil)))))) pss_nil)
        (pss_one (ps_if (pt_cmpR op_in_seq (pv 2) (pe_slice sl_list (pv 0) po_none (po_some (pv 1))) (by rfl))
          (pss_one (ps_ret (pe_tup (pa_cons pe_str (pa_cons (pv 1) (pa_cons pe_str pa_nil)))))) pss_nil)))))
      (pss_one (ps_ret (pe_tup (pa_cons pe_str (pa_cons (pe_callB call_len (by rfl) B.len PySem.boot_len (pa_cons (pv 0) pa_nil)) pa_nil))))), ?_⟩
    refine ⟨_, rfl, a, .lst xs, xs, rfl, ha, .inl rfl, for_it walk_enumS (fun i σ H2 => ∃ y z, σ = [some (.ref a), y, z, none] ∧ Same H H2 ∧ ∀ j, j < i → badAt xs j = none)
      ⟨none, none, rfl, Same.refl H, fun j h => absurd h (by omega)⟩ (fun i σ H2 _ h => let ⟨_, _, _, s, _⟩ := h; s _ _ ha) ?_ ?_⟩
    · rintro i x σ H1 H2 hi ⟨y, z, rfl, s1, hgood⟩ ⟨p, v, rfl, np, rfl, hv⟩
      have hv' : xs[i]? = some v := hv
      have hx := getD_of hv'
      have s2 : Same H (upd H1 p (.tup [.int (i : Nat), v])) := same_upd s1 np
      have ha2 := s2 _ _ ha
      have hovk := (hok v (List.mem_of_getElem? hv')).same s2
      refine ⟨p, _, rfl, SqT.of upd_same, rfl, _, _, rfl, _, _, rfl, rfl, ?_⟩
      refine ⟨_, rfl, v, rfl, hovk, fun H3 s3 => ⟨isStV v, rfl, ?_⟩⟩
      have s4 := same_tr s2 s3
      have ha4 := s4 _ _ ha
      -- what is answered when it is bad
      have out : ∀ (kd : Str), badAt xs i = some kd → ∀ (H' : Hp), Same H H' → ∀ q, H' q = none → Q (.ref q) (upd H' q (.tup [.str "broken", .int (i : Nat), .str kd])) := fun kd hb H' s' q nq => by
        refine k _ q (same_upd s' nq) (s'.free nq) ?_
        rw [upd_same]
        unfold jItems
        rw [judge_hit hgood hi hb]
      cases hst : isStV v with
      | false =>
        have hb : badAt xs i = some ("state" : Str) := by
          unfold badAt
          rw [hx, if_pos (.inl hst)]
        exact ifT (ifT ⟨_, rfl, (by show 3 ≤ sizeLine; decide), fun q nq => out _ hb _ s4 q nq⟩)
      | true =>
        obtain ⟨l, rfl, hsl⟩ := stV_txt hst
        obtain ⟨l1, l2, l3⟩ := isSt_len hsl
        have hlen0 : ∃ z0, xs[0]? = some (VT z0) ∧ z0.length ≤ 1000 := by
          rcases Nat.eq_zero_or_pos i with h0 | h0
          · subst h0
            exact ⟨l, hv', by omega⟩
          · obtain ⟨z0, e0, hz0, _⟩ := bad_good (hgood 0 h0)
            exact ⟨z0, by rw [getD_in (by omega), e0], by have := isSt_len hz0; omega⟩
        obtain ⟨z0, hz0, hz0l⟩ := hlen0
        have hx0 : xs.getD 0 .non = VT z0 := getD_of hz0
        refine ifF ⟨_, rfl, _, l.length, rfl, ⟨sl1000 (by omega), (T_len l).symm⟩, _, rfl, a, xs, 0, VT z0, rfl, rfl, SqL.of ha4, atI_nat (j := 0) hz0, _, z0.length, rfl, ⟨sl1000 (by omega), (T_len z0).symm⟩, rfl, _, rfl, ?_⟩
        show if (!decide (V.int (l.length : Nat) = V.int (z0.length : Nat))) = true then _ else _
        have hdl : decide (V.int (l.length : Nat) = V.int (z0.length : Nat)) = decide (l.length = z0.length) := by
          by_cases h : l.length = z0.length
          · rw [h]; simp
          · rw [decide_eq_false h, decide_eq_false]
            intro e
            injection e with e
            exact h (by omega)
        rw [hdl]
        cases hll : decide (l.length = z0.length) with
        | false =>
          have hb : badAt xs i = some ("state" : Str) := by
            unfold badAt
            rw [hx, hx0, if_pos (.inr (of_decide_eq_false hll))]
          exact ifT ⟨_, rfl, (by show 3 ≤ sizeLine; decide), fun q nq => out _ hb _ s4 q nq⟩
        | true =>
          have hll2 : l.length = z0.length := of_decide_eq_true hll
          have hc1 : ¬ (isStV (xs.getD i .non) = false ∨ (txt (xs.getD i .non)).length ≠ (txt (xs.getD 0 .non)).length) := by
            rw [hx, hx0, hst]
            rintro (q | q)
            · cases q
            · exact q hll2
          refine ifF ⟨_, rfl, _, _, rfl, rfl, _, rfl, ?_⟩
          show if decide ((0 : Int) < (i : Nat)) = true then _ else _
          rcases Nat.eq_zero_or_pos i with h0 | h0
          · rw [decide_eq_false (by omega)]
            have hsw : ¬ (0 < i ∧ Mi.unlike (txt (xs.getD (i - 1) .non)) (txt (xs.getD i .non)) ≠ 1) := fun h => absurd h.1 (by omega)
            refine ifF (ifF ?_)
            refine ⟨_, rfl, _, rfl, _, rfl, (i : Nat), rfl, a, xs, rfl, SqL.of (s4 _ _ ha), fun c nc => ?_⟩
            refine ⟨c, _, rfl, .inl (SqL.of upd_same), rfl, ?_, _, rfl, ?_⟩
            · rw [cutV_to]
              exact flat_txt (good_take hgood (by omega))
            have sc := same_upd (o := .lst (cutV xs none (some (i : Nat)))) s4 nc
            have ein : inV (VT l) (cutV xs none (some (i : Nat))) = decide (VT l ∈ xs.take i) := by
              rw [cutV_to, inV_txt (good_take hgood (by omega))]
            show if inV (VT l) (cutV xs none (some (i : Nat))) = true then _ else _
            rw [ein]
            cases hin : decide (VT l ∈ xs.take i) with
            | true =>
              have hb : badAt xs i = some ("again" : Str) := by
                unfold badAt
                rw [if_neg hc1, if_neg hsw, hx, if_pos (of_decide_eq_true hin)]
              exact ifT ⟨_, rfl, (by show 3 ≤ sizeLine; decide), fun q nq => out _ hb _ sc q nq⟩
            | false =>
              have hb : badAt xs i = none := by
                unfold badAt
                rw [if_neg hc1, if_neg hsw, hx, if_neg (of_decide_eq_false hin)]
              refine ifF ⟨_, _, rfl, sc, fun j hj => ?_⟩
              rcases Nat.lt_or_eq_of_le (Nat.le_of_lt_succ hj) with h | h
              · exact hgood j h
              · rw [h]
                exact hb
          · rw [decide_eq_true (by omega)]
            obtain ⟨pv0, epv, hpv, hpl⟩ := bad_good (hgood (i - 1) (by omega))
            rw [hx0] at hpl
            have hpl2 : pv0.length = l.length := hpl.trans hll2.symm
            have hxp : xs[i - 1]? = some (VT pv0) := by rw [getD_in (by omega), epv]
            refine ifT ⟨_, rfl, _, l.length, rfl, ⟨sl1000 (by omega), (T_len l).symm⟩, _, rfl, by omega, by omega, fun D hD => ?_⟩
            refine lc_range (lo := 0) (n := ((l.length : Nat) : Int).toNat) (fun m H5 => Same H H5 ∧ ∃ acc, H5 D = some (.lst acc) ∧ acc.length = ((List.range m).filter fun m => !decide (l.getD m 0 = pv0.getD m 0)).length)
              ⟨same_upd s4 hD, [], upd_same, by simp⟩ ?_ ?_
            · rintro m H5 hm ⟨s5, acc, hd, hacc⟩
              rw [Int.toNat_natCast] at hm
              have hl2 := List.getElem?_eq_getElem hm
              have hp2 := List.getElem?_eq_getElem (show m < pv0.length by omega)
              have hfl := List.length_filter_le (fun m => !decide (l.getD m 0 = pv0.getD m 0)) (List.range m)
              rw [List.length_range] at hfl
              have hst2 := unlike_succ (p := fun m => !decide (l.getD m 0 = pv0.getD m 0)) (i := m)
              refine ⟨rfl, _, rfl, _, rfl, T l, _, _, rfl, rfl, sl1000 (by omega), atI_codes (Int.zero_add _) hl2, _, rfl, _, rfl, _, _, rfl, rfl, a, xs, _, VT pv0, rfl, rfl, SqL.of (s5 _ _ ha), ?_, _, rfl, T pv0, _, _, rfl, rfl, sl1000 (by omega), atI_codes (Int.zero_add _) hp2, rfl, _, rfl, ?_⟩
              · show atI xs (((i : Nat) : Int) - 1) = _
                rw [show ((i : Nat) : Int) - 1 = ((i - 1 : Nat) : Int) by omega]
                exact atI_nat hxp
              have e1 : decide (V.str ⟨#[l[m]]⟩ = V.str ⟨#[pv0[m]]⟩) = decide (l.getD m 0 = pv0.getD m 0) := by
                rw [getD_at hl2, getD_at hp2]
                by_cases h : l[m] = pv0[m]
                · rw [h]; simp
                · rw [decide_eq_false h, decide_eq_false]
                  intro e
                  injection e with e
                  exact h (by injection e with e; simpa using e)
              show if (!decide (V.str ⟨#[l[m]]⟩ = V.str ⟨#[pv0[m]]⟩)) = true then _ else _
              rw [e1]
              cases hq : (!decide (l.getD m 0 = pv0.getD m 0))
              · rw [hq] at hst2
                refine ifF ⟨s5, acc, hd, ?_⟩
                rw [hst2, hacc]
                rfl
              · rw [hq] at hst2
                refine ifT ⟨_, rfl, acc, hd, small1000 (by omega), same_updN s5 (s4.free hD), _, upd_same, ?_⟩
                rw [hst2, List.length_append, hacc]
                rfl
            · rintro H5 ⟨s5, acc, hd, hacc⟩
              rw [Int.toNat_natCast] at hacc
              have hun : acc.length = Mi.unlike pv0 l := by
                rw [unlike_comm hpl2]
                exact hacc
              refine ⟨D, acc, rfl, .inl (SqL.of hd), rfl, _, rfl, ?_⟩
              show if (!decide (V.int (acc.length : Nat) = V.int 1)) = true then _ else _
              have hd1 : decide (V.int (acc.length : Nat) = V.int 1) = decide (Mi.unlike pv0 l = 1) := by
                rw [hun]
                by_cases h : Mi.unlike pv0 l = 1
                · rw [h]; simp
                · rw [decide_eq_false h, decide_eq_false]
                  intro e
                  injection e with e
                  exact h (by omega)
              rw [hd1]
              cases hu : decide (Mi.unlike pv0 l = 1) with
              | false =>
                have hb : badAt xs i = some ("switch" : Str) := by
                  unfold badAt
                  rw [if_neg hc1, hx, epv, if_pos ⟨h0, of_decide_eq_false hu⟩]
                exact ifT ⟨_, rfl, (by show 3 ≤ sizeLine; decide), fun q nq => out _ hb _ s5 q nq⟩
              | true =>
                have hsw : ¬ (0 < i ∧ Mi.unlike (txt (xs.getD (i - 1) .non)) (txt (xs.getD i .non)) ≠ 1) := by
                  rw [hx, epv]
                  exact fun h => h.2 (of_decide_eq_true hu)
                refine ifF ?_
                refine ⟨_, rfl, _, rfl, _, rfl, (i : Nat), rfl, a, xs, rfl, SqL.of (s5 _ _ ha), fun c nc => ?_⟩
                refine ⟨c, _, rfl, .inl (SqL.of upd_same), rfl, ?_, _, rfl, ?_⟩
                · rw [cutV_to]
                  exact flat_txt (good_take hgood (by omega))
                have sc := same_upd (o := .lst (cutV xs none (some (i : Nat)))) s5 nc
                have ein : inV (VT l) (cutV xs none (some (i : Nat))) = decide (VT l ∈ xs.take i) := by
                  rw [cutV_to, inV_txt (good_take hgood (by omega))]
                show if inV (VT l) (cutV xs none (some (i : Nat))) = true then _ else _
                rw [ein]
                cases hin : decide (VT l ∈ xs.take i) with
                | true =>
                  have hb : badAt xs i = some ("again" : Str) := by
                    unfold badAt
                    rw [if_neg hc1, if_neg hsw, hx, if_pos (of_decide_eq_true hin)]
                  exact ifT ⟨_, rfl, (by show 3 ≤ sizeLine; decide), fun q nq => out _ hb _ sc q nq⟩
                | false =>
                  have hb : badAt xs i = none := by
                    unfold badAt
                    rw [if_neg hc1, if_neg hsw, hx, if_neg (of_decide_eq_false hin)]
                  refine ifF ⟨_, _, rfl, sc, fun j hj => ?_⟩
                  rcases Nat.lt_or_eq_of_le (Nat.le_of_lt_succ hj) with h | h
                  · exact hgood j h
                  · rw [h]
                    exact hb
    · rintro σ H1 ⟨y, z, rfl, s1, hgood⟩
      have e := judge_none hgood
      have ha1 := s1 _ _ ha
      refine ⟨_, rfl, _, xs.length, rfl, .inl ⟨xs, SqL.of ha1, rfl⟩, ?_, fun q nq => ?_⟩
      · show 2 ≤ sizeLine; decide
      · refine k _ q (same_upd s1 nq) (s1.free nq) ?_
        rw [upd_same]
        unfold jItems
        rw [e]
end
end Ev
namespace Ev
open PySem L2 PyProof.Rows
/-- how the papers are made -/
structure Wn (P : Program) (w : World) (K : PySem.W.Frag) (mg : Str → Option Value) (base : Heap) (c : Cs) : Prop where
  mw : ∃ f, Mk K c.cw f ∧ FnR P w K mg base CX0 4 f (spInit K c.cw fun d => ∃ n, d = .whole n)
  mb : ∃ f, Mk K c.cb f ∧ FnR P w K mg base CX0 4 f (spInit K c.cb fun d => ∃ n y, d = .broken n y)
  ml : ∃ f, Mk K c.cl f ∧ FnR P w K mg base CX0 4 f (spInit K c.cl fun d => ∃ n, d = .lacks n)
theorem made {c : Cs} {H H' : Hp} {x dx p : Addr} {d : Pd} (ok : d.ok) (nx : H x = none) (ndx : H dx = none) (nex : dx ≠ x) (hb : But x (upd (upd H dx (.own x)) x (.ins (c.of d) dx [])) H')
    (hx' : H' x = some (.ins (c.of d) dx (d.fields p))) (hp' : H' p = some (.tup d.items)) : Same H H' ∧ IsP c H' (.ref x) d := by
  refine ⟨fun b o e => hb b o (ne_of_none e nx) ?_, ok, x, dx, p, rfl, hx', hp'⟩
  rw [upd_ne (ne_of_none e nx), upd_ne (ne_of_none e ndx)]
  exact e
def spBroken (c : Cs) : Sp := fun vs H Q _ => ∃ a o xs, vs = [.ref a] ∧ H a = some o ∧ IsSq o xs ∧ (∀ x ∈ xs, Okv H x) ∧ xs.length ≤ 5000 ∧ ∀ H', Same H H' → (match judge xs with
  | some (i, k) => ∀ v, IsP c H' v (.broken (i : Nat) k) → Q v H'
  | none => Q .non H')
theorem rIx_sq {K : PySem.W.Frag} {H : Hp} {a : Addr} {o : HO} {xs : List V} {i : Int} {v : V} {Q : VK} (h : H a = some o) (hs : IsSq o xs) (hi : atI xs i = some v) (q : Q v H) : rIx K (.ref a) (.int i) H Q := by
  rcases hs with rfl | rfl
  · exact .inl ⟨a, xs, i, v, rfl, rfl, SqL.of h, hi, q⟩
  · exact .inr (.inl ⟨a, xs, i, v, rfl, rfl, SqT.of h, hi, q⟩)
theorem kind_ok {xs : List V} {i : Nat} {k : Str} (h : badAt xs i = some k) : k = "state" ∨ k = "switch" ∨ k = "again" := by
  unfold badAt at h
  split at h
  · exact .inl (Option.some.inj h).symm
  · split at h
    · exact .inr (.inl (Option.some.inj h).symm)
    · split at h
      · exact .inr (.inr (Option.some.inj h).symm)
      · cases h
section
variable {P : Program} {w : World} {K : PySem.W.Frag} {mg : Str → Option Value} {base : Heap}
theorem ok_broken {f fS fU : Addr} {fd fdS fdU : FuncData} {c : Cs} (F : Fun K "broken_in" "broken_in" sBrokenIn f fd) (B : Bl mg) (W : Wc K mg c) (N : Wn P w K mg base c)
    (GS : FnOk P w K mg base CX0 2 fS fdS ["value"] (spVB isStV)) (kS : PySem.W.keepIn K (.ref fS) = true) (bS : Binds K fdS ["value"] []) (gS : mg "is_state" = some (.ref fS))
    (FU : Fun K "unlike_lamps" "unlike_lamps" sUnlike fU fdU) (bU : Binds K fdU ["one", "other"] []) (gU : mg "unlike_lamps" = some (.ref fU)) : FnOk P w K mg base CX0 6 f fd ["states"] (spBroken c) := by
  have GU : FnOk P w K mg base CX0 1 fU fdU ["one", "other"] spDif := ok_unlike FU B
  obtain ⟨fi, Mb, Gb⟩ := N.mb
  refine F.ok scBrokenIn (fun vs H Q E h => ?_) (fun cdv A outer s H vs Q E hr h => ?_)
  · obtain ⟨a, o, xs, rfl, _⟩ := h
    rfl
  · obtain ⟨a, o, xs, rfl, ha, hsq, hok, hlen, k⟩ := h
    refine ⟨_, pss_cons (ps_set (i := 1) scBrokenIn.nd rfl (Or.inl rfl) pe_dnewK)
      (pss_cons (ps_for PassesOwn.never rfl (pi_enumS (by rfl) B.enum (pa_cons (pv 0) pa_nil)) (pg_tup rfl (pgs_cons (pg_name (i := 2) scBrokenIn.nd rfl (Or.inl rfl)) (pgs_cons (pg_name (i := 3) scBrokenIn.nd rfl (Or.inl rfl)) pgs_nil)))
        (pss_cons (ps_if (pw_or (pt_not (pt_val (pe_call GS (hr.mono (by decide)) (by rfl) gS kS bS .nil pass0 (pa_cons (pv 3) pa_nil))))
            (pw_or1 (pt_cmpR op_ne (pe_callB call_len (by rfl) B.len PySem.boot_len (pa_cons (pv 3) pa_nil)) (pe_callB call_len (by rfl) B.len PySem.boot_len (pa_cons (pe_ix ix_seq (pv 0) pe_int (fun _ _ => rfl)) pa_nil)) (nomark _)))).pt
          (pss_one (ps_ret (StX.pe_makeR Mb Gb hr (by rfl) W.mgb pass0 (pa_cons (pv 2) (pa_cons pe_str pa_nil))))) pss_nil)
        (pss_cons (ps_if (pw_and (pt_cmpR op_gt (pv 2) pe_int (nomark _))
            (pw_and1 (pt_cmpR op_ne (pe_call GU (hr.mono (by decide)) (by rfl) gU FU.kp bU .nil pass0 (pa_cons (pe_ix ix_seq (pv 0) (pe_op op_sub (pv 2) pe_int) (fun _ _ => rfl)) (pa_cons (pv 3) pa_nil))) pe_int (nomark _)))).pt
          (pss_one (ps_ret (StX.pe_makeR Mb Gb hr (by rfl) W.mgb pass0 (pa_cons (pv 2) (pa_cons pe_str pa_nil))))) pss_nil)
        (pss_cons (ps_if (pt_cmp (pc_din (hu_of hr) (pv 3) (pv 1)))
          (pss_one (ps_ret (StX.pe_makeR Mb Gb hr (by rfl) W.mgb pass0 (pa_cons (pv 2) (pa_cons pe_str pa_nil))))) pss_nil)
        (pss_one (ps_dput (hu_of hr) (pv 1) (pv 3) pe_bl rfl))))))
      (pss_one (ps_ret pe_non))), ?_⟩
    refine fun q nq => ?_
    have s0 : Same H (upd H q (.dK [])) := same_upd (Same.refl H) nq
    refine ⟨_, rfl, a, o, xs, rfl, s0 _ _ ha, hsq, for_it walk_enumS (fun i σ H2 => ∃ y z kvs, σ = [some (.ref a), some (.ref q), y, z] ∧ Same H H2 ∧ H2 q = some (.dK kvs) ∧ kvs.length ≤ i ∧ (∀ l, (valV kvs (.inr (T l))).isSome = decide (VT l ∈ xs.take i)) ∧ ∀ j, j < i → badAt xs j = none)
      ⟨none, none, [], rfl, s0, upd_same, by simp, fun l => by simp [valV], fun j h => absurd h (by omega)⟩ (fun i σ H2 _ h => let ⟨_, _, _, _, s, _⟩ := h; s _ _ ha) ?_ ?_⟩
    · rintro i x σ H1 H2 hi ⟨y, z, kvs, rfl, s1, hq1, hkl, hkv, hgood⟩ ⟨p, v, rfl, np, rfl, hv⟩
      have hv' : xs[i]? = some v := hv
      have hx := getD_of hv'
      have s2 : Same H (upd H1 p (.tup [.int (i : Nat), v])) := same_upd s1 np
      have hqp : q ≠ p := ne_of_none hq1 np
      have hq2 : upd H1 p (.tup [.int (i : Nat), v]) q = some (.dK kvs) := by rw [upd_ne hqp]; exact hq1
      have hovk := (hok v (List.mem_of_getElem? hv')).same s2
      refine ⟨p, _, rfl, SqT.of upd_same, rfl, _, _, rfl, _, _, rfl, rfl, ?_⟩
      refine ⟨_, rfl, v, rfl, hovk, fun H3 s3 => ⟨isStV v, rfl, ?_⟩⟩
      have s4 := same_tr s2 s3
      have ha4 := s4 _ _ ha
      have hq4 := s3 _ _ hq2
      have okb : ∀ kd : Str, badAt xs i = some kd → (Pd.broken (i : Nat) kd).ok := fun kd hb => ⟨by omega, by omega, kind_ok hb⟩
      have out : ∀ (kd : Str), badAt xs i = some kd → ∀ (H' : Hp), Same H H' → ∀ v, IsP c H' v (.broken (i : Nat) kd) → Q v H' := fun kd hb H' s' v hv => by
        have kk := k _ s'
        rw [judge_hit hgood hi hb] at kk
        exact kk v hv
      cases hst : isStV v with
      | false =>
        have hb : badAt xs i = some ("state" : Str) := by
          unfold badAt
          rw [hx, if_pos (.inl hst)]
        refine ifT (ifT ⟨_, rfl, fun x dx nx ndx nex => ⟨x, dx, .broken (i : Nat) ("state" : Str), ⟨_, _, rfl⟩, rfl, W.gd (.broken 0 "state"), upd_same, fun H' p2 hb2 hp2 hx2 hp2' => ⟨rfl, ?_⟩⟩⟩)
        obtain ⟨sm, ip⟩ := made (c := c) (d := .broken (i : Nat) ("state" : Str)) (okb _ hb) nx ndx nex hb2 hx2 hp2'
        exact out _ hb _ (same_tr s4 sm) _ ip
      | true =>
        obtain ⟨l, rfl, hsl⟩ := stV_txt hst
        obtain ⟨l1, l2, l3⟩ := isSt_len hsl
        have hlen0 : ∃ z0, xs[0]? = some (VT z0) ∧ z0.length ≤ 1000 := by
          rcases Nat.eq_zero_or_pos i with h0 | h0
          · subst h0
            exact ⟨l, hv', by omega⟩
          · obtain ⟨z0, e0, hz0, _⟩ := bad_good (hgood 0 h0)
            exact ⟨z0, by rw [getD_in (by omega), e0], by have := isSt_len hz0; omega⟩
        obtain ⟨z0, hz0, hz0l⟩ := hlen0
        have hx0 : xs.getD 0 .non = VT z0 := getD_of hz0
        refine ifF ⟨_, rfl, _, l.length, rfl, ⟨sl1000 (by omega), (T_len l).symm⟩, _, rfl, rIx_sq ha4 hsq (atI_nat (j := 0) hz0) ⟨_, z0.length, rfl, ⟨sl1000 (by omega), (T_len z0).symm⟩, rfl, _, rfl, ?_⟩⟩
        show if (!decide (V.int (l.length : Nat) = V.int (z0.length : Nat))) = true then _ else _
        have hdl : decide (V.int (l.length : Nat) = V.int (z0.length : Nat)) = decide (l.length = z0.length) := by
          by_cases h : l.length = z0.length
          · rw [h]; simp
          · rw [decide_eq_false h, decide_eq_false]
            intro e
            injection e with e
            exact h (by omega)
        rw [hdl]
        cases hll : decide (l.length = z0.length) with
        | false =>
          have hb : badAt xs i = some ("state" : Str) := by
            unfold badAt
            rw [hx, hx0, if_pos (.inr (of_decide_eq_false hll))]
          refine ifT ⟨_, rfl, fun x dx nx ndx nex => ⟨x, dx, .broken (i : Nat) ("state" : Str), ⟨_, _, rfl⟩, rfl, W.gd (.broken 0 "state"), upd_same, fun H' p2 hb2 hp2 hx2 hp2' => ⟨rfl, ?_⟩⟩⟩
          obtain ⟨sm, ip⟩ := made (c := c) (d := .broken (i : Nat) ("state" : Str)) (okb _ hb) nx ndx nex hb2 hx2 hp2'
          exact out _ hb _ (same_tr s4 sm) _ ip
        | true =>
          have hll2 : l.length = z0.length := of_decide_eq_true hll
          have hc1 : ¬ (isStV (xs.getD i .non) = false ∨ (txt (xs.getD i .non)).length ≠ (txt (xs.getD 0 .non)).length) := by
            rw [hx, hx0, hst]
            rintro (q | q)
            · cases q
            · exact q hll2
          refine ifF ⟨_, rfl, _, _, rfl, rfl, _, rfl, ?_⟩
          show if decide ((0 : Int) < (i : Nat)) = true then _ else _
          rcases Nat.eq_zero_or_pos i with h0 | h0
          · rw [decide_eq_false (by omega)]
            have hsw : ¬ (0 < i ∧ Mi.unlike (txt (xs.getD (i - 1) .non)) (txt (xs.getD i .non)) ≠ 1) := fun h => absurd h.1 (by omega)
            refine ifF (ifF ?_)
            refine ⟨_, rfl, _, rfl, q, _, rfl, DGet.k (k := Sum.inr (T l)) (hq4), _, rfl, ?_⟩
            rw [hkv l]
            cases hin : decide (VT l ∈ xs.take i) with
            | true =>
              have hb : badAt xs i = some ("again" : Str) := by
                unfold badAt
                rw [if_neg hc1, if_neg hsw, hx, if_pos (of_decide_eq_true hin)]
              refine ifT ⟨_, rfl, fun x dx nx ndx nex => ⟨x, dx, .broken (i : Nat) ("again" : Str), ⟨_, _, rfl⟩, rfl, W.gd (.broken 0 "state"), upd_same, fun H' p2 hb2 hp2 hx2 hp2' => ⟨rfl, ?_⟩⟩⟩
              obtain ⟨sm, ip⟩ := made (c := c) (d := .broken (i : Nat) ("again" : Str)) (okb _ hb) nx ndx nex hb2 hx2 hp2'
              exact out _ hb _ (same_tr s4 sm) _ ip
            | false =>
              have hb : badAt xs i = none := by
                unfold badAt
                rw [if_neg hc1, if_neg hsw, hx, if_neg (of_decide_eq_false hin)]
              refine ifF ⟨_, rfl, _, rfl, q, _, rfl, DPut.k (k := Sum.inr (T l)) (hq4) (small_line (by omega)), _, _, _, rfl, same_updN s4 nq, upd_same, ?_, fun l' => ?_, fun j hj => ?_⟩
              · have hn : valV kvs (Sum.inr (T l)) = none := by
                  have := hkv l
                  rw [hin] at this
                  simpa using this
                rw [putK_new _ hn, List.length_append, List.length_singleton]
                omega
              · rw [valV_put, List.take_succ, hv']
                by_cases h : l' = l
                · subst h
                  simp
                · have h2 : ¬ (Sum.inr (T l') : Key) = Sum.inr (T l) := fun e => h (T_inj.mp (Sum.inr.inj e))
                  rw [if_neg h2, hkv l']
                  have h3 : ¬ VT l' = VT l := fun e => h (by injection e with e; exact T_inj.mp e)
                  simp [h3]
              · rcases Nat.lt_or_eq_of_le (Nat.le_of_lt_succ hj) with h | h
                · exact hgood j h
                · rw [h]
                  exact hb
          · rw [decide_eq_true (by omega)]
            obtain ⟨pv0, epv, hpv, hpl⟩ := bad_good (hgood (i - 1) (by omega))
            rw [hx0] at hpl
            have hpl2 : pv0.length = l.length := hpl.trans hll2.symm
            have hxp : xs[i - 1]? = some (VT pv0) := by rw [getD_in (by omega), epv]
            refine ifT ⟨_, rfl, _, rfl, _, _, rfl, rfl, rIx_sq ha4 hsq ?_ ⟨_, rfl, pv0, l, rfl, by omega, by omega, by omega, fun H5 s5 => ⟨rfl, _, rfl, ?_⟩⟩⟩
            · show atI xs (((i : Nat) : Int) - 1) = _
              rw [show ((i : Nat) : Int) - 1 = ((i - 1 : Nat) : Int) by omega]
              exact atI_nat hxp
            have s6 := same_tr s4 s5
            have hq6 := s5 _ _ hq4
            show if (!decide (V.int (Mi.unlike pv0 l : Nat) = V.int 1)) = true then _ else _
            have hd1 : decide (V.int (Mi.unlike pv0 l : Nat) = V.int 1) = decide (Mi.unlike pv0 l = 1) := by
              by_cases h : Mi.unlike pv0 l = 1
              · rw [h]; simp
              · rw [decide_eq_false h, decide_eq_false]
                intro e
                injection e with e
                exact h (by omega)
            rw [hd1]
            cases hu : decide (Mi.unlike pv0 l = 1) with
            | false =>
              have hb : badAt xs i = some ("switch" : Str) := by
                unfold badAt
                rw [if_neg hc1, hx, epv, if_pos ⟨h0, of_decide_eq_false hu⟩]
              refine ifT ⟨_, rfl, fun x dx nx ndx nex => ⟨x, dx, .broken (i : Nat) ("switch" : Str), ⟨_, _, rfl⟩, rfl, W.gd (.broken 0 "state"), upd_same, fun H' p2 hb2 hp2 hx2 hp2' => ⟨rfl, ?_⟩⟩⟩
              obtain ⟨sm, ip⟩ := made (c := c) (d := .broken (i : Nat) ("switch" : Str)) (okb _ hb) nx ndx nex hb2 hx2 hp2'
              exact out _ hb _ (same_tr s6 sm) _ ip
            | true =>
              have hsw : ¬ (0 < i ∧ Mi.unlike (txt (xs.getD (i - 1) .non)) (txt (xs.getD i .non)) ≠ 1) := by
                rw [hx, epv]
                exact fun h => h.2 (of_decide_eq_true hu)
              refine ifF ?_
              refine ⟨_, rfl, _, rfl, q, _, rfl, DGet.k (k := Sum.inr (T l)) (hq6), _, rfl, ?_⟩
              rw [hkv l]
              cases hin : decide (VT l ∈ xs.take i) with
              | true =>
                have hb : badAt xs i = some ("again" : Str) := by
                  unfold badAt
                  rw [if_neg hc1, if_neg hsw, hx, if_pos (of_decide_eq_true hin)]
                refine ifT ⟨_, rfl, fun x dx nx ndx nex => ⟨x, dx, .broken (i : Nat) ("again" : Str), ⟨_, _, rfl⟩, rfl, W.gd (.broken 0 "state"), upd_same, fun H' p2 hb2 hp2 hx2 hp2' => ⟨rfl, ?_⟩⟩⟩
                obtain ⟨sm, ip⟩ := made (c := c) (d := .broken (i : Nat) ("again" : Str)) (okb _ hb) nx ndx nex hb2 hx2 hp2'
                exact out _ hb _ (same_tr s6 sm) _ ip
              | false =>
                have hb : badAt xs i = none := by
                  unfold badAt
                  rw [if_neg hc1, if_neg hsw, hx, if_neg (of_decide_eq_false hin)]
                refine ifF ⟨_, rfl, _, rfl, q, _, rfl, DPut.k (k := Sum.inr (T l)) (hq6) (small_line (by omega)), _, _, _, rfl, same_updN s6 nq, upd_same, ?_, fun l' => ?_, fun j hj => ?_⟩
                · have hn : valV kvs (Sum.inr (T l)) = none := by
                    have := hkv l
                    rw [hin] at this
                    simpa using this
                  rw [putK_new _ hn, List.length_append, List.length_singleton]
                  omega
                · rw [valV_put, List.take_succ, hv']
                  by_cases h : l' = l
                  · subst h
                    simp
                  · have h2 : ¬ (Sum.inr (T l') : Key) = Sum.inr (T l) := fun e => h (T_inj.mp (Sum.inr.inj e))
                    rw [if_neg h2, hkv l']
                    have h3 : ¬ VT l' = VT l := fun e => h (by injection e with e; exact T_inj.mp e)
                    simp [h3]
                · rcases Nat.lt_or_eq_of_le (Nat.le_of_lt_succ hj) with h | h
                  · exact hgood j h
                  · rw [h]
                    exact hb
    · rintro σ H1 ⟨y, z, kvs, rfl, s1, hq1, hkl, hkv, hgood⟩
      have kk := k _ s1
      rw [judge_none hgood] at kk
      exact kk
end
end Ev
/-! The walk of the least states: each is greater than the one before. -/
namespace Mi
theorem app_lt (a : W) {x y : W} (h : x < y) : a ++ x < a ++ y := by
  induction a with
  | nil => exact h
  | cons c r ih => exact List.cons_lt_cons_iff.mpr (.inr ⟨rfl, ih⟩)
theorem greater_lt {s t : W} : ∀ k, k ≤ s.length → greaterGo s k = some t → s < t
  | 0, _, h => by cases h
  | k + 1, hk, h => by
    unfold greaterGo at h
    split at h
    · rename_i c
      cases h
      have hlt : k < s.length := by omega
      have e : s = s.take k ++ 48 :: s.drop (k + 1) := by
        have e1 : s.drop k = s[k] :: s.drop (k + 1) := List.drop_eq_getElem_cons hlt
        have e2 : s[k] = 48 := by
          have := c.1
          simpa [hlt] using this
        rw [← e2, ← e1, List.take_append_drop]
      have e3 : ∀ n, leastM (s.take k ++ [49]) n = s.take k ++ 49 :: (List.replicate (n - (s.take k ++ [49]).length - (n / 2 - (s.take k ++ [49]).count 49)) 48 ++ List.replicate (n / 2 - (s.take k ++ [49]).count 49) 49) := fun n => by
        unfold leastM
        simp
      rw [e3]
      have := app_lt (s.take k) (x := 48 :: s.drop (k + 1)) (y := 49 :: (List.replicate (s.length - (s.take k ++ [49]).length - (s.length / 2 - (s.take k ++ [49]).count 49)) 48 ++ List.replicate (s.length / 2 - (s.take k ++ [49]).count 49) 49)) (List.cons_lt_cons_iff.mpr (.inl (by decide)))
      rw [← e] at this
      exact this
    · exact greater_lt k (by omega) h
theorem greaterM_lt {s t : W} (h : greaterM s = some t) : s < t := greater_lt s.length (Nat.le_refl _) h
theorem least_len {fr : W} {n : Nat} (h : fr.length + (n / 2 - fr.count 49) ≤ n) : (leastM fr n).length = n := by
  unfold leastM
  simp
  omega
theorem greater_len {s t : W} (hc : s.length / 2 ≤ s.count 49) : ∀ k, k ≤ s.length → greaterGo s k = some t → t.length = s.length
  | 0, _, h => by cases h
  | k + 1, hk, h => by
    unfold greaterGo at h
    split at h
    · rename_i c
      cases h
      have hlt : k < s.length := by omega
      have e1 : s.drop k = s[k] :: s.drop (k + 1) := List.drop_eq_getElem_cons hlt
      have e2 : s[k] = 48 := by
        have := c.1
        simpa [hlt] using this
      have e3 : s.count 49 = (s.take k).count 49 + (s.drop (k + 1)).count 49 := by
        have e : (s.take k ++ s.drop k).count 49 = s.count 49 := by rw [List.take_append_drop]
        rw [← e, List.count_append, e1, e2, List.count_cons]
        simp
      have e4 := List.count_le_length (a := 49) (l := s.drop (k + 1))
      rw [List.length_drop] at e4
      have e5 : (s.take k ++ [49]).count 49 = (s.take k).count 49 + 1 := by rw [List.count_append]; simp
      refine least_len ?_
      rw [e5, List.length_append, List.length_take, List.length_singleton]
      omega
    · exact greater_len hc k (by omega) h
theorem greaterM_len {s t : W} (hs : isSt s = true) (h : greaterM s = some t) : t.length = s.length := by
  refine greater_len ?_ s.length (Nat.le_refl _) h
  unfold isSt at hs
  simp only [Bool.and_eq_true, Bool.or_eq_true, decide_eq_true_eq] at hs
  rcases hs.2 with h | h <;> omega
/-- the least state that is not there -/
inductive Lk (has : W → Prop) : W → Option W → Prop where
  | out {s : W} (h : ¬ has s) : Lk has s (some s)
  | last {s : W} (h : has s) (g : greaterM s = none) : Lk has s none
  | step {s t : W} {r : Option W} (h : has s) (g : greaterM s = some t) (k : Lk has t r) : Lk has s r
def LkO (has : W → Prop) : Option W → Option W → Prop
  | none, r => r = none
  | some s, r => Lk has s r
end Mi
namespace Ev
open PySem L2 PyProof.Rows
/-- a dict comprehension over a walk -/
theorem dc_it {J : It} {n : Nat} {G : Hp → Prop} {Y : Nat → Hp → V → Hp → Prop} (w : Walk J n G Y) {g : TG} {tt : TT} {tk tv : TE} {vs : List Nat} {σ : L2.St} {H1 : Hp} {D : Addr} {Qd : Hp → Prop} (Pv : Nat → Hp → Prop) (h0 : Pv 0 (upd H1 D (.dK []))) (hG : ∀ i H, i ≤ n → Pv i H → G H)
    (hs : ∀ i x H H', i < n → Pv i H → Y i H x H' → g x (wipe σ vs) H' fun σ2 H2 => wipe σ2 vs = wipe σ vs ∧ tt σ2 H2 fun b H3 =>
      if b = true then tk σ2 H3 fun y H4 => tv σ2 H4 fun z H5 => ∃ kvs k, y = kV k ∧ H5 D = some (.dK kvs) ∧ kvs.length < sizeLine ∧ Pv (i + 1) (upd H5 D (.dK (putK kvs k z))) else Pv (i + 1) H3) (hd : ∀ H, Pv n H → Qd H) :
    ∃ W : Nat → Nat → Hp → Prop, (∃ m, W 0 m (upd H1 D (.dK []))) ∧ ∀ i m H, W i m H →
      (J.stop i H ∧ Qd H) ∨ (J.go i H ∧ ∃ Nx : Hp → Prop, (∀ H', Nx H' → ∃ m', m' < m ∧ W (i + 1) m' H') ∧ ∀ x H', J.yld i H x H' → g x (wipe σ vs) H' fun σ2 H2 => wipe σ2 vs = wipe σ vs ∧ tt σ2 H2 fun b H3 =>
        if b = true then tk σ2 H3 fun y H4 => tv σ2 H4 fun z H5 => ∃ kvs k, y = kV k ∧ H5 D = some (.dK kvs) ∧ kvs.length < sizeLine ∧ Nx (upd H5 D (.dK (putK kvs k z))) else Nx H3) := by
  refine ⟨fun i m H => m = n - i ∧ i ≤ n ∧ Pv i H, ⟨n, by simp, Nat.zero_le _, h0⟩, ?_⟩
  rintro i m H ⟨rfl, hi, p⟩
  have q := hG i H hi p
  by_cases hlt : i < n
  · exact .inr ⟨w.goes i H hlt q, Pv (i + 1), fun H' p' => ⟨n - (i + 1), by omega, rfl, hlt, p'⟩, fun x H' y => hs i x H H' hlt p (w.yields i H x H' hlt q y)⟩
  · have e : i = n := by omega
    subst e
    exact .inl ⟨w.stops H q, hd H p⟩
/-- a list of states, all as wide as the first -/
def AllSt (xs : List V) (n : Nat) : Prop := ∀ x ∈ xs, ∃ l, x = VT l ∧ Mi.isSt l = true ∧ l.length = n
theorem allSt_of {xs : List V} (h : judge xs = none) (hx : xs ≠ []) : AllSt xs (txt (xs.getD 0 .non)).length := by
  have key : ∀ j, j < xs.length → badAt xs j = none := by
    have go : ∀ n i, judgeGo xs i n = none → ∀ j, i ≤ j → j < i + n → badAt xs j = none := fun n => by
      induction n with
      | zero => intro i _ j h1 h2; omega
      | succ n ih =>
        intro i h j h1 h2
        have h' : (match badAt xs i with | some k => some (i, k) | none => judgeGo xs (i + 1) n) = none := h
        cases hb : badAt xs i with
        | some k => rw [hb] at h'; cases h'
        | none =>
          rw [hb] at h'
          rcases Nat.lt_or_eq_of_le h1 with h3 | h3
          · exact ih (i + 1) h' j (by omega) (by omega)
          · rw [← h3]; exact hb
    intro j hj
    exact go _ _ h j (Nat.zero_le _) (by omega)
  intro x hx
  obtain ⟨j, hj⟩ := List.mem_iff_getElem?.mp hx
  have hjl := (List.getElem?_eq_some_iff.mp hj).1
  obtain ⟨l, e, hs, hl⟩ := bad_good (key j hjl)
  rw [getD_of hj] at e
  exact ⟨l, e, hs, hl⟩
def has (xs : List V) : List Nat → Prop := fun l => VT l ∈ xs
def spLack : Sp := fun vs H Q _ => ∃ a o xs n, vs = [.ref a] ∧ H a = some o ∧ IsSq o xs ∧ xs ≠ [] ∧ AllSt xs n ∧ xs.length ≤ 5000 ∧ ∀ H' r, Same H H' → Mi.Lk (has xs) (Mi.leastM [] n) r → Q (optV r) H'
def mu (xs : List V) (s : List Nat) : Nat := (xs.filter fun x => decide (¬ txt x < s)).length
theorem mu_lt {xs : List V} {s t : List Nat} (h : s < t) (hs : VT s ∈ xs) : mu xs t < mu xs s := by
  unfold mu
  have h1 : (xs.filter fun x => decide (¬ txt x < t)).length < (xs.filter fun x => decide (¬ txt x < s)).length := by
    induction xs with
    | nil => cases hs
    | cons y r ih =>
      have sub : ∀ r : List V, (r.filter fun x => decide (¬ txt x < t)).length ≤ (r.filter fun x => decide (¬ txt x < s)).length := fun r => by
        rw [← List.countP_eq_length_filter, ← List.countP_eq_length_filter]
        refine List.countP_mono_left fun a _ ha => ?_
        have ha' := of_decide_eq_true ha
        exact decide_eq_true fun q => ha' (List.lt_trans q h)
      rcases List.mem_cons.mp hs with rfl | hs
      · have e1 : decide (¬ txt (VT s) < t) = false := decide_eq_false fun q => q h
        have e2 : decide (¬ txt (VT s) < s) = true := decide_eq_true (List.lt_irrefl s)
        rw [List.filter_cons, List.filter_cons, e1, e2]
        have := sub r
        simp only [if_true, Bool.false_eq_true, if_false, List.length_cons]
        omega
      · have i := ih hs
        rw [List.filter_cons, List.filter_cons]
        by_cases q1 : decide (¬ txt y < t) = true
        · have q2 : decide (¬ txt y < s) = true := by
            have ha' := of_decide_eq_true q1
            exact decide_eq_true fun q => ha' (List.lt_trans q h)
          rw [q1, q2]
          simpa using i
        · rw [if_neg q1]
          split
          · simp only [List.length_cons]; omega
          · exact i
  exact h1
section
variable {P : Program} {w : World} {K : PySem.W.Frag} {mg : Str → Option Value} {base : Heap}
theorem ok_lack {f fL fG : Addr} {fd fdL fdG : FuncData} (F : Fun K "lacking_in" "lacking_in" sLacking f fd) (B : Bl mg)
    (GL : FnOk P w K mg base CX0 2 fL fdL ["front", "lamps"] spLeast) (kL : PySem.W.keepIn K (.ref fL) = true) (bL : Binds K fdL ["front", "lamps"] []) (gL : mg "least_state" = some (.ref fL))
    (GG : FnOk P w K mg base CX0 3 fG fdG ["state"] spGr) (kG : PySem.W.keepIn K (.ref fG) = true) (bG : Binds K fdG ["state"] []) (gG : mg "greater_state" = some (.ref fG)) : FnOk P w K mg base CX0 4 f fd ["states"] spLack := by
  refine F.ok scLacking (fun vs H Q E h => ?_) (fun cdv A outer s H vs Q E hr h => ?_)
  · obtain ⟨a, o, xs, n, rfl, _⟩ := h
    rfl
  · obtain ⟨a, o, xs, n, rfl, ha, hsq, hne, hall, hlen, k⟩ := h
    refine ⟨_, pss_cons (ps_par (i := 1) (j := 2) rfl scLacking.nd rfl rfl (by decide) rfl rfl (pa_cons (pe_dc (own := [("each", 3)]) (g := gName 3) (tt := tYes) rfl scLacking.nd (pi_seq (pv 0))
          (blkOk_by (own := [("each", 3)]) (N := nLacking) (sc := defScope sLacking) (by decide +kernel)) (fun _ _ _ _ _ => pg_name (i := 3) scLacking.nd rfl (Or.inl rfl)) (fun _ _ _ _ _ => pts_nil) (fun _ _ _ _ _ => pv 3) (fun _ _ _ _ _ => pe_bl))
        (pa_cons (pe_call GL (hr.mono (by decide)) (by rfl) gL kL bL .nil pass0 (pa_cons pe_str (pa_cons (pe_callB call_len (by rfl) B.len PySem.boot_len (pa_cons (pe_ix ix_seq (pv 0) pe_int (fun _ _ => rfl)) pa_nil)) pa_nil))) pa_nil)) rfl)
      (pss_cons (ps_while PassesOwn.never (pw_and (pt_cmpR op_notN (pv 2) pe_non (nomark _)) (pw_and1 (pt_cmp (pc_din (hu_of hr) (pv 2) (pv 1))))).pt
        (pss_one (ps_set (i := 2) scLacking.nd rfl (Or.inl rfl) (pe_call GG hr (by rfl) gG kG bG .nil pass0 (pa_cons (pv 2) pa_nil)))))
      (pss_one (ps_ret (pv 2)))), ?_⟩
    obtain ⟨x0, r0, hx0⟩ := List.exists_cons_of_ne_nil hne
    obtain ⟨l0, e0, hs0, hl0⟩ := hall x0 (by rw [hx0]; exact List.mem_cons_self)
    have hi0 : xs[0]? = some (VT l0) := by rw [hx0, e0]; rfl
    have hn := (isSt_len hs0).1
    rw [hl0] at hn
    refine ⟨_, rfl, a, o, xs, rfl, ha, hsq, fun D hD => ?_⟩
    refine dc_it walk_seq (fun i H2 => Same H H2 ∧ ∃ kvs, H2 D = some (.dK kvs) ∧ kvs.length ≤ i ∧ ∀ l, (valV kvs (.inr (T l))).isSome = decide (VT l ∈ xs.take i))
      ⟨same_upd (Same.refl H) hD, [], upd_same, by simp, fun l => by simp [valV]⟩ (fun i H2 _ h => h.1 _ _ ha) ?_ ?_
    · rintro i x H2 H3 hi ⟨s2, kvs, hd, hkl, hkv⟩ ⟨rfl, hx⟩
      obtain ⟨l, rfl, hs, hl⟩ := hall x (List.mem_of_getElem? hx)
      refine ⟨rfl, tyes_ite ⟨_, rfl, kvs, Sum.inr (T l), rfl, hd, small_line (by omega), same_updN s2 hD, _, upd_same, ?_, fun l' => ?_⟩⟩
      · unfold putK
        split
        · rw [List.length_map]; omega
        · rw [List.length_append, List.length_singleton]; omega
      · rw [valV_put, List.take_succ, hx]
        by_cases h : l' = l
        · subst h
          simp
        · have h2 : ¬ (Sum.inr (T l') : Key) = Sum.inr (T l) := fun e => h (T_inj.mp (Sum.inr.inj e))
          rw [if_neg h2, hkv l']
          have h3 : ¬ VT l' = VT l := fun e => h (by injection e with e; exact T_inj.mp e)
          simp [h3]
    · rintro H2 ⟨s2, kvs, hd, hkl, hkv⟩
      rw [List.take_length] at hkv
      have ha2 := s2 _ _ ha
      refine ⟨_, rfl, rIx_sq ha2 hsq (atI_nat (j := 0) hi0) ⟨_, l0.length, rfl, ⟨sl1000 (by omega), (T_len l0).symm⟩, [], n, ?_, by simp, by omega, fun H3 s3 => ⟨_, _, rfl, ?_⟩⟩⟩
      · rw [hl0, s_empty]
        rfl
      have s4 := same_tr s2 s3
      have hd4 := s3 _ _ hd
      refine while_by (fun σ H4 => ∃ so z, σ = [some (.ref a), some (.ref D), some (optV so), z] ∧ Same H H4 ∧ H4 D = some (.dK kvs) ∧ (∀ r, Mi.LkO (has xs) so r → Mi.Lk (has xs) (Mi.leastM [] n) r) ∧ ∀ s, so = some s → s.length ≤ 500)
        (fun σ H4 => match σ with | [_, _, some (.str x), _] => 1 + mu xs x.cps.toList | _ => 0) ⟨some (Mi.leastM [] n), none, rfl, s4, hd4, fun r h => h, fun s h => ?_⟩ ?_ ?_
      · cases h
        rw [Mi.least_len (by simp; omega)]
        omega
      · rintro σ H4 ⟨so, z, rfl, s5, hd5, hlk, hsl⟩
        refine ⟨_, rfl, rfl, _, rfl, ?_⟩
        cases so with
        | none => exact ifF (ifF ⟨_, rfl, k _ none s5 (hlk none rfl)⟩)
        | some s =>
          refine ifT ⟨_, rfl, _, rfl, D, _, rfl, DGet.k (k := Sum.inr (T s)) hd5, _, rfl, ?_⟩
          rw [hkv s]
          cases hin : decide (VT s ∈ xs) with
          | false => exact ifF ⟨_, rfl, k _ (some s) s5 (hlk (some s) (.out (show ¬ (VT s ∈ xs) from of_decide_eq_false hin)))⟩
          | true =>
            have hin2 : VT s ∈ xs := of_decide_eq_true hin
            refine ifT ⟨_, rfl, s, rfl, hsl s rfl, fun H6 s6 => ?_⟩
            refine ⟨⟨Mi.greaterM s, z, rfl, same_tr s5 s6, s6 _ _ hd5, fun r hr => ?_, fun t ht => ?_⟩, ?_⟩
            · cases hg : Mi.greaterM s with
              | none =>
                rw [hg] at hr
                cases hr
                exact hlk none (.last hin2 hg)
              | some t =>
                rw [hg] at hr
                exact hlk r (.step hin2 hg hr)
            · obtain ⟨l, e, hs, hl⟩ := hall _ hin2
              have e2 : l = s := by injection e with e; exact (T_inj.mp e).symm
              subst e2
              rw [Mi.greaterM_len hs ht]
              exact hsl l rfl
            · cases hg : Mi.greaterM s with
              | none => show 0 < 1 + mu xs s; omega
              | some t =>
                have := mu_lt (Mi.greaterM_lt hg) hin2
                show 1 + mu xs t < 1 + mu xs s
                omega
      · rintro σ H4 Q1 Q2 hq ⟨x, e, hx, y, ey, h⟩
        refine ⟨x, e, hx, y, ey, ?_⟩
        cases y with
        | true =>
          obtain ⟨x1, e1, x2, e2, a3, o3, e3, h3, b3, e4, h4⟩ := h
          exact ⟨x1, e1, x2, e2, a3, o3, e3, h3, b3, e4, hq _ _ h4⟩
        | false => exact hq _ _ h
end
end Ev
namespace Mi
theorem signs_app {a b : W} : isSigns (a ++ b) = (isSigns a && isSigns b) := by
  unfold isSigns
  rw [List.all_append]
theorem signs_rep (n : Nat) {c : Nat} (h : c = 48 ∨ c = 49) : isSigns (List.replicate n c) = true := by
  unfold isSigns
  refine List.all_eq_true.mpr fun x hx => ?_
  rw [(List.mem_replicate.mp hx).2]
  rcases h with rfl | rfl <;> rfl
theorem least_signs {fr : W} (n : Nat) (h : isSigns fr = true) : isSigns (leastM fr n) = true := by
  unfold leastM
  rw [signs_app, signs_app, h, signs_rep _ (.inl rfl), signs_rep _ (.inr rfl)]
  rfl
theorem signs_take {l : W} (k : Nat) (h : isSigns l = true) : isSigns (l.take k) = true := List.all_eq_true.mpr fun x hx => List.all_eq_true.mp h x (List.mem_of_mem_take hx)
theorem greater_signs {s t : W} (hs : isSigns s = true) : ∀ k, greaterGo s k = some t → isSigns t = true
  | 0, h => by cases h
  | k + 1, h => by
    unfold greaterGo at h
    split at h
    · cases h
      refine least_signs _ ?_
      rw [signs_app, signs_take k hs]
      rfl
    · exact greater_signs hs k h
theorem lk_ok {has : W → Prop} (hh : ∀ x, has x → isSt x = true) {s : W} {r : Option W} (h : Lk has s r) : isSigns s = true → ∀ t, r = some t → isSigns t = true ∧ t.length = s.length := by
  induction h with
  | out h => intro hs t e; cases e; exact ⟨hs, rfl⟩
  | last h g => intro hs t e; cases e
  | step h g k ih =>
    intro hs t e
    obtain ⟨h1, h2⟩ := ih (greater_signs hs _ g) t e
    exact ⟨h1, h2.trans (greaterM_len (hh _ h) g)⟩
end Mi
namespace Ev
open PySem L2 PyProof.Rows
def lastV (xs : List V) : V := xs.getD (xs.length - 1) .non
def Jr (xs : List V) (d : Pd) : Prop := match judge xs with
  | some (i, k) => d = .broken (i : Nat) k
  | none => ∃ r, Mi.Lk (has xs) (Mi.leastM [] (txt (xs.getD 0 .non)).length) r ∧ match r with
    | some s => d = .lacks s
    | none => d = if Mi.unlike (txt (xs.getD 0 .non)) (txt (lastV xs)) = 1 then .whole (xs.length : Nat) else .broken 0 "switch"
def spJr (c : Cs) : Sp := fun vs H Q _ => ∃ a o xs, vs = [.ref a] ∧ H a = some o ∧ IsSq o xs ∧ xs ≠ [] ∧ (∀ x ∈ xs, Okv H x) ∧ xs.length ≤ 5000 ∧ ∀ H' v d, Same H H' → Jr xs d → IsP c H' v d → Q v H'
def spNeed : Sp := fun vs H Q _ => ∃ a o xs, vs = [.ref a] ∧ H a = some o ∧ IsSq o xs ∧ xs ≠ [] ∧ xs.length ≤ 5000 ∧ ∀ H', Same H H' → Q .non H'
def spShows (c : Cs) : Sp := fun vs H Q _ => ∃ a o xs v d0, vs = [.ref a, v] ∧ H a = some o ∧ IsSq o xs ∧ xs ≠ [] ∧ (∀ x ∈ xs, Okv H x) ∧ xs.length ≤ 5000 ∧ IsP c H v d0 ∧ ∀ H' d, Same H H' → Jr xs d → Q (.bl (d0.eqb d)) H'
theorem atI_end {xs : List V} (h : xs ≠ []) : atI xs (-1) = some (lastV xs) := by
  obtain ⟨l, x, rfl⟩ : ∃ l x, xs = l ++ [x] := ⟨xs.dropLast, xs.getLast h, (List.dropLast_concat_getLast h).symm⟩
  rw [atI_last]
  unfold lastV
  simp
theorem judge_kind {xs : List V} {i : Nat} {k : Str} (h : judge xs = some (i, k)) : (k = "state" ∨ k = "switch" ∨ k = "again") ∧ i < xs.length := by
  have go : ∀ n j, judgeGo xs j n = some (i, k) → (k = "state" ∨ k = "switch" ∨ k = "again") ∧ i < j + n := fun n => by
    induction n with
    | zero => intro j h; cases h
    | succ n ih =>
      intro j h
      have h' : (match badAt xs j with | some k => some (j, k) | none => judgeGo xs (j + 1) n) = some (i, k) := h
      cases hb : badAt xs j with
      | some k2 =>
        rw [hb] at h'
        cases h'
        exact ⟨kind_ok hb, by omega⟩
      | none =>
        rw [hb] at h'
        obtain ⟨h1, h2⟩ := ih (j + 1) h'
        exact ⟨h1, by omega⟩
  have := go _ _ h
  rw [Nat.zero_add] at this
  exact this
section
variable {P : Program} {w : World} {K : PySem.W.Frag} {mg : Str → Option Value} {base : Heap}
theorem ok_need {f : Addr} {fd : FuncData} (F : Fun K "need_states" "need_states" sNeed f fd) (B : Bl mg) : FnOk P w K mg base CX0 1 f fd ["value"] spNeed := by
  obtain ⟨us, hus, rus⟩ := B.listed
  refine F.ok scNeed (fun vs H Q E h => ?_) (fun cdv A outer s H vs Q E hr h => ?_)
  · obtain ⟨a, o, xs, rfl, _⟩ := h
    rfl
  · obtain ⟨a, o, xs, rfl, ha, hsq, hne, hlen, k⟩ := h
    refine ⟨_, pss_one (ps_if (pw_or (pt_not (pt_val (pe_callB call_isiT (by rfl) B.isi boot_isinstance (pa_cons (pv 0) (pa_cons (pe_tup (pa_cons (pe_bltn (v := .ty "list") (by rfl) B.list PyProof.Rows.boot_list rfl) (pa_cons (pe_bltn (v := .ty "tuple") (by rfl) B.tuple PyProof.Rows.boot_tuple rfl) pa_nil))) pa_nil)))))
        (pw_or1 (pt_not (pt_chain op_le op_le pe_int (pe_callB call_len_seq (by rfl) B.len PySem.boot_len (pa_cons (pv 0) pa_nil)) (pe_glob (by rfl) hus rus))))).pt
        (pss_one ps_never) pss_nil), ?_⟩
    refine ⟨_, rfl, (by show 2 ≤ sizeLine; decide), fun p np => ?_⟩
    have s1 : Same H (upd H p (.tup [.ty "list", .ty "tuple"])) := same_upd (Same.refl H) np
    have ha1 := s1 _ _ ha
    have hl : 1 ≤ xs.length := List.length_pos_iff.mpr hne
    have key : ∃ t, TyX K (upd H p (.tup [.ty "list", .ty "tuple"])) (.ref a) t ∧ PySem.W.kitAny K t [.type "list", .type "tuple"] = some true := by
      rcases hsq with rfl | rfl
      · exact ⟨_, .base (.lst ha1), kitAny_cons (b := true) (kit_ty (by decide +kernel)) (fun h => nomatch h) (fun _ => rfl)⟩
      · exact ⟨_, .base (.tup ha1), kitAny_cons (b := false) (kit_ty (by decide +kernel)) (fun _ => kitAny_cons (b := true) (kit_ty (by decide +kernel)) (fun h => nomatch h) (fun _ => rfl)) (fun h => nomatch h)⟩
    obtain ⟨t, hty, hka⟩ := key
    refine ⟨_, p, _, t, _, true, rfl, upd_same, .cons (.ty "list") (.cons (.ty "tuple") .nil), hty, hka, true, rfl, ifF ?_⟩
    refine ⟨_, rfl, a, xs, rfl, ?_, _, _, rfl, rfl, _, rfl, ?_⟩
    · rcases hsq with rfl | rfl
      · exact .inl (SqL.of ha1)
      · exact .inr (SqT.of ha1)
    show if decide ((1 : Int) ≤ (xs.length : Nat)) = true then _ else _
    rw [decide_eq_true (show (1 : Int) ≤ (xs.length : Nat) by omega)]
    refine ifT ⟨_, _, rfl, rfl, _, rfl, ?_⟩
    show if (!decide (((xs.length : Nat) : Int) ≤ 5000)) = true then _ else _
    rw [decide_eq_true (show ((xs.length : Nat) : Int) ≤ 5000 by omega)]
    exact ifF (k _ s1)
theorem ok_jr {f fB fK fU : Addr} {fd fdB fdK fdU : FuncData} {c : Cs} (F : Fun K "judged_round_in" "judged_round_in" sJudgedIn f fd) (B : Bl mg) (W : Wc K mg c) (N : Wn P w K mg base c)
    (GB : FnOk P w K mg base CX0 6 fB fdB ["states"] (spBroken c)) (kB : PySem.W.keepIn K (.ref fB) = true) (bB : Binds K fdB ["states"] []) (gB : mg "broken_in" = some (.ref fB))
    (GK : FnOk P w K mg base CX0 4 fK fdK ["states"] spLack) (kK : PySem.W.keepIn K (.ref fK) = true) (bK : Binds K fdK ["states"] []) (gK : mg "lacking_in" = some (.ref fK))
    (FU : Fun K "unlike_lamps" "unlike_lamps" sUnlike fU fdU) (bU : Binds K fdU ["one", "other"] []) (gU : mg "unlike_lamps" = some (.ref fU)) : FnOk P w K mg base CX0 7 f fd ["states"] (spJr c) := by
  have GU : FnOk P w K mg base CX0 1 fU fdU ["one", "other"] spDif := ok_unlike FU B
  obtain ⟨fb, Mb, Gb⟩ := N.mb
  obtain ⟨fw, Mw, Gw⟩ := N.mw
  obtain ⟨fl, Ml, Gl'⟩ := N.ml
  refine F.ok scJudgedIn (fun vs H Q E h => ?_) (fun cdv A outer s H vs Q E hr h => ?_)
  · obtain ⟨a, o, xs, rfl, _⟩ := h
    rfl
  · obtain ⟨a, o, xs, rfl, ha, hsq, hne, hok, hlen, k⟩ := h
    refine ⟨_, pss_cons (ps_set (i := 1) scJudgedIn.nd rfl (Or.inl rfl) (pe_call GB hr (by rfl) gB kB bB .nil pass0 (pa_cons (pv 0) pa_nil)))
      (pss_cons (ps_if (pt_cmpR op_notN (pv 1) pe_non (nomark _)) (pss_one (ps_ret (pv 1))) pss_nil)
      (pss_cons (ps_set (i := 2) scJudgedIn.nd rfl (Or.inl rfl) (pe_call GK (hr.mono (by decide)) (by rfl) gK kK bK .nil pass0 (pa_cons (pv 0) pa_nil)))
      (pss_cons (ps_if (pt_cmpR op_notN (pv 2) pe_non (nomark _)) (pss_one (ps_ret (StX.pe_makeR Ml Gl' (hr.mono (by decide)) (by rfl) W.mgl pass0 (pa_cons (pv 2) pa_nil)))) pss_nil)
      (pss_one (ps_ret (pe_ifExp (pt_cmpR op_eq (pe_call GU (hr.mono (by decide)) (by rfl) gU FU.kp bU .nil pass0 (pa_cons (pe_ix ix_seq (pv 0) pe_int (fun _ _ => rfl)) (pa_cons (pe_ix ix_seq (pv 0) (pe_un un_neg pe_int) (fun _ _ => rfl)) pa_nil))) pe_int (nomark _))
        (StX.pe_makeR Mw Gw (hr.mono (by decide)) (by rfl) W.mgw pass0 (pa_cons (pe_callB call_len_seq (by rfl) B.len PySem.boot_len (pa_cons (pv 0) pa_nil)) pa_nil))
        (StX.pe_makeR Mb Gb (hr.mono (by decide)) (by rfl) W.mgb pass0 (pa_cons pe_int (pa_cons pe_str pa_nil)))))))))  , ?_⟩
    refine ⟨_, rfl, a, o, xs, rfl, ha, hsq, hok, hlen, fun H2 s2 => ?_⟩
    have hjr : ∀ d, Jr xs d = (match judge xs with
      | some (i, k) => d = .broken (i : Nat) k
      | none => ∃ r, Mi.Lk (has xs) (Mi.leastM [] (txt (xs.getD 0 .non)).length) r ∧ match r with
        | some s => d = .lacks s
        | none => d = if Mi.unlike (txt (xs.getD 0 .non)) (txt (lastV xs)) = 1 then .whole (xs.length : Nat) else .broken 0 "switch") := fun d => rfl
    cases hj : judge xs with
    | some ik =>
      obtain ⟨i, kd⟩ := ik
      rw [hj] at hjr
      intro v ip
      obtain ⟨ok1, x, dx, p, rfl, _⟩ := id ip
      refine ⟨_, rfl, rfl, _, rfl, ifT ⟨_, rfl, k _ _ _ s2 (by rw [hjr]) ip⟩⟩
    | none =>
      rw [hj] at hjr
      have hall := allSt_of hj hne
      have ha2 := s2 _ _ ha
      refine ⟨_, rfl, rfl, _, rfl, ifF ?_⟩
      refine ⟨_, rfl, a, o, xs, _, rfl, ha2, hsq, hne, hall, hlen, fun H3 r s3 hlk => ?_⟩
      have s4 := same_tr s2 s3
      have ha4 := s4 _ _ ha
      obtain ⟨x0, r0, hx0⟩ := List.exists_cons_of_ne_nil hne
      obtain ⟨l0, e0, hs0, hl0⟩ := hall x0 (by rw [hx0]; exact List.mem_cons_self)
      have hi0 : xs[0]? = some (VT l0) := by rw [hx0, e0]; rfl
      have hn := (isSt_len hs0).1
      have hd0 : xs.getD 0 .non = VT l0 := getD_of hi0
      cases r with
      | some t =>
        have hst : ∀ x, has xs x → Mi.isSt x = true := fun x hx => by
          obtain ⟨l, e, h1, _⟩ := hall _ hx
          have e2 : l = x := by injection e with e; exact (T_inj.mp e).symm
          rw [← e2]
          exact h1
        obtain ⟨g1, g2⟩ := Mi.lk_ok hst hlk (Mi.least_signs _ rfl) t rfl
        rw [Mi.least_len (by simp; omega)] at g2
        have hok2 : (Pd.lacks t).ok := ⟨g1, by rw [g2, ← hl0]; omega⟩
        refine ⟨_, rfl, rfl, _, rfl, ifT ⟨_, rfl, fun x dx nx ndx nex => ⟨x, dx, .lacks t, ⟨_, rfl⟩, rfl, W.gd (.lacks []), upd_same, fun H' p2 hb2 hp2 hx2 hp2' => ⟨rfl, ?_⟩⟩⟩⟩
        obtain ⟨sm, ip⟩ := made (c := c) (d := .lacks t) hok2 nx ndx nex hb2 hx2 hp2'
        exact k _ _ _ (same_tr s4 sm) (by rw [hjr]; exact ⟨some t, hlk, rfl⟩) ip
      | none =>
        refine ⟨_, rfl, rfl, _, rfl, ifF ?_⟩
        have hlast := atI_end hne
        have hlm : lastV xs ∈ xs := by
          unfold lastV
          have : xs.length - 1 < xs.length := by have := List.length_pos_iff.mpr hne; omega
          simp [this]
        obtain ⟨l9, e9, hs9, hl9⟩ := hall _ hlm
        have hll : l0.length = l9.length := hl0.trans hl9.symm
        have hjr2 : ∀ d, d = (if Mi.unlike l0 l9 = 1 then Pd.whole (xs.length : Nat) else Pd.broken 0 "switch") → Jr xs d := fun d h => by
          rw [hjr]
          refine ⟨none, hlk, ?_⟩
          rw [hd0, e9]
          exact h
        have h401 := (isSt_len hs9).1
        refine ⟨_, rfl, rIx_sq ha4 hsq (atI_nat (j := 0) hi0) ⟨_, rfl, 1, rfl, rIx_sq ha4 hsq hlast ⟨l0, l9, by rw [e9]; rfl, by omega, by omega, by omega, fun H5 s5 => ⟨rfl, _, rfl, ?_⟩⟩⟩⟩
        have s6 := same_tr s4 s5
        have ha6 := s6 _ _ ha
        show if decide (V.int (Mi.unlike l0 l9 : Nat) = V.int 1) = true then _ else _
        have hd1 : decide (V.int (Mi.unlike l0 l9 : Nat) = V.int 1) = decide (Mi.unlike l0 l9 = 1) := by
          by_cases h : Mi.unlike l0 l9 = 1
          · rw [h]; simp
          · rw [decide_eq_false h, decide_eq_false]
            intro e
            injection e with e
            exact h (by omega)
        rw [hd1]
        cases hu : decide (Mi.unlike l0 l9 = 1) with
        | true =>
          have hu2 := of_decide_eq_true hu
          refine ifT ⟨_, rfl, a, xs, rfl, ?_, fun x dx nx ndx nex => ⟨x, dx, .whole (xs.length : Nat), ⟨_, rfl⟩, rfl, W.gd (.whole 0), upd_same, fun H' p2 hb2 hp2 hx2 hp2' => ⟨rfl, ?_⟩⟩⟩
          · rcases hsq with rfl | rfl
            · exact .inl (SqL.of ha6)
            · exact .inr (SqT.of ha6)
          obtain ⟨sm, ip⟩ := made (c := c) (d := .whole (xs.length : Nat)) ⟨by omega, by omega⟩ nx ndx nex hb2 hx2 hp2'
          exact k _ _ _ (same_tr s6 sm) (hjr2 _ (by rw [if_pos hu2])) ip
        | false =>
          have hu2 := of_decide_eq_false hu
          refine ifF (fun x dx nx ndx nex => ⟨x, dx, .broken 0 ("switch" : Str), ⟨_, _, rfl⟩, rfl, W.gd (.broken 0 "switch"), upd_same, fun H' p2 hb2 hp2 hx2 hp2' => ⟨rfl, ?_⟩⟩)
          obtain ⟨sm, ip⟩ := made (c := c) (d := .broken 0 ("switch" : Str)) ⟨by omega, by omega, .inr (.inl rfl)⟩ nx ndx nex hb2 hx2 hp2'
          exact k _ _ _ (same_tr s6 sm) (hjr2 _ (by rw [if_neg hu2])) ip
end
end Ev
namespace Ev
open PySem L2 PyProof.Rows
section
variable {P : Program} {w : World} {K : PySem.W.Frag} {mg : Str → Option Value} {base : Heap}
theorem ok_jround {f fN fJ : Addr} {fd fdN fdJ : FuncData} {c : Cs} (F : Fun K "judged_round" "judged_round" sJudgedRound f fd) (B : Bl mg)
    (FN : Fun K "need_states" "need_states" sNeed fN fdN) (bN : Binds K fdN ["value"] []) (gN : mg "need_states" = some (.ref fN))
    (GJ : FnOk P w K mg base CX0 7 fJ fdJ ["states"] (spJr c)) (kJ : PySem.W.keepIn K (.ref fJ) = true) (bJ : Binds K fdJ ["states"] []) (gJ : mg "judged_round_in" = some (.ref fJ)) : FnOk P w K mg base CX0 8 f fd ["states"] (spJr c) := by
  have GN : FnOk P w K mg base CX0 1 fN fdN ["value"] spNeed := ok_need FN B
  refine F.ok scJudgedRound (fun vs H Q E h => ?_) (fun cdv A outer s H vs Q E hr h => ?_)
  · obtain ⟨a, o, xs, rfl, _⟩ := h
    rfl
  · obtain ⟨a, o, xs, rfl, ha, hsq, hne, hok, hlen, k⟩ := h
    refine ⟨_, pss_cons (ps_expr (pe_call GN (hr.mono (by decide)) (by rfl) gN FN.kp bN .nil pass0 (pa_cons (pv 0) pa_nil)))
      (pss_one (ps_ret (pe_call GJ hr (by rfl) gJ kJ bJ .nil pass0 (pa_cons (pv 0) pa_nil)))), ?_⟩
    refine ⟨_, rfl, a, o, xs, rfl, ha, hsq, hne, hlen, fun H2 s2 => ?_⟩
    exact ⟨_, rfl, a, o, xs, rfl, s2 _ _ ha, hsq, hne, fun x hx => (hok x hx).same s2, hlen, fun H' v d s' hj ip => k _ _ _ (same_tr s2 s') hj ip⟩
theorem ok_shows {f fN fJ fA : Addr} {fd fdN fdJ fdA : FuncData} {c : Cs} (F : Fun K "shows_round" "shows_round" sShows f fd) (B : Bl mg)
    (FN : Fun K "need_states" "need_states" sNeed fN fdN) (bN : Binds K fdN ["value"] []) (gN : mg "need_states" = some (.ref fN))
    (GJ : FnOk P w K mg base CX0 7 fJ fdJ ["states"] (spJr c)) (kJ : PySem.W.keepIn K (.ref fJ) = true) (bJ : Binds K fdJ ["states"] []) (gJ : mg "judged_round_in" = some (.ref fJ))
    (GA : FnOk P w K mg base CX0 2 fA fdA ["value", "paper"] (spAlike c)) (kA : PySem.W.keepIn K (.ref fA) = true) (bA : Binds K fdA ["value", "paper"] []) (gA : mg "tells_alike" = some (.ref fA)) : FnOk P w K mg base CX0 8 f fd ["states", "value"] (spShows c) := by
  have GN : FnOk P w K mg base CX0 1 fN fdN ["value"] spNeed := ok_need FN B
  refine F.ok scShows (fun vs H Q E h => ?_) (fun cdv A outer s H vs Q E hr h => ?_)
  · obtain ⟨a, o, xs, v, d0, rfl, _⟩ := h
    rfl
  · obtain ⟨a, o, xs, v, d0, rfl, ha, hsq, hne, hok, hlen, ip0, k⟩ := h
    refine ⟨_, pss_cons (ps_expr (pe_call GN (hr.mono (by decide)) (by rfl) gN FN.kp bN .nil pass0 (pa_cons (pv 0) pa_nil)))
      (pss_one (ps_ret (pe_call GA (hr.mono (by decide)) (by rfl) gA kA bA .nil pass0 (pa_cons (pv 1) (pa_cons (pe_call GJ hr (by rfl) gJ kJ bJ .nil pass0 (pa_cons (pv 0) pa_nil)) pa_nil))))), ?_⟩
    refine ⟨_, rfl, a, o, xs, rfl, ha, hsq, hne, hlen, fun H2 s2 => ?_⟩
    refine ⟨_, rfl, _, rfl, a, o, xs, rfl, s2 _ _ ha, hsq, hne, fun x hx => (hok x hx).same s2, hlen, fun H' u d s' hj ip => ?_⟩
    exact ⟨_, _, d0, d, rfl, ip0.same (same_tr s2 s'), ip, fun H9 s9 => k _ _ (same_tr (same_tr s2 s') s9) hj⟩
end
end Ev
namespace Mi
def rowsM : Nat → List W
  | 0 => [[]]
  | n + 1 => (rowsM n).map (· ++ [48]) ++ (rowsM n).map (· ++ [49])
theorem rows_len : ∀ n, (rowsM n).length = 2 ^ n
  | 0 => rfl
  | n + 1 => by
    show ((rowsM n).map (· ++ [48]) ++ (rowsM n).map (· ++ [49])).length = _
    rw [List.length_append, List.length_map, List.length_map, rows_len n, Nat.pow_succ]
    omega
theorem rows_mem : ∀ {n : Nat} {r : W}, r ∈ rowsM n → r.length = n ∧ isSigns r = true
  | 0, r, h => by
    rw [List.mem_singleton.mp h]
    exact ⟨rfl, rfl⟩
  | n + 1, r, h => by
    have h' : r ∈ (rowsM n).map (· ++ [48]) ++ (rowsM n).map (· ++ [49]) := h
    rcases List.mem_append.mp h' with h | h
    · obtain ⟨x, hx, rfl⟩ := List.mem_map.mp h
      obtain ⟨h1, h2⟩ := rows_mem hx
      refine ⟨by rw [List.length_append, h1]; rfl, ?_⟩
      rw [signs_app, h2]
      rfl
    · obtain ⟨x, hx, rfl⟩ := List.mem_map.mp h
      obtain ⟨h1, h2⟩ := rows_mem hx
      refine ⟨by rw [List.length_append, h1]; rfl, ?_⟩
      rw [signs_app, h2]
      rfl
end Mi
namespace Ev
open PySem L2 PyProof.Rows
def lackRows (xs : List V) (p : Nat) : List (List Nat) := (Mi.rowsM (2 * p + 1)).filter fun r => Mi.isSt r && !decide (VT r ∈ xs)
def dueP (xs : List V) (p : Nat) : Pd := match judge xs with
  | some (i, k) => .broken (i : Nat) k
  | none => if lackRows xs p ≠ [] then .lacks (Mi.minL (lackRows xs p)) else if Mi.unlike (txt (xs.getD 0 .non)) (txt (lastV xs)) = 1 then .whole (xs.length : Nat) else .broken 0 "switch"
def spDue : Sp := fun vs H Q _ => ∃ a xs p, vs = [.ref a, .int (p : Nat)] ∧ H a = some (.lst xs) ∧ xs ≠ [] ∧ (∀ x ∈ xs, Okv H x) ∧ xs.length ≤ 5000 ∧ p ≤ 4 ∧ ∀ H' q, Same H H' → H q = none → H' q = some (.tup (dueP xs p).told) → Q (.ref q) H'
theorem depth_strs : ∀ l : List (List Nat), PyData.depthAll (l.map fun r => .str (T r)) = 0
  | [] => rfl
  | r :: l => by
    show max (PyData.depth (.str (T r))) (PyData.depthAll (l.map fun r => .str (T r))) = 0
    rw [depth_strs l]
    rfl
theorem lay_strs : ∀ l : List (List Nat), (∀ r ∈ l, Mi.isSigns r = true) → PyData.canLayAll0 (l.map fun r => .str (T r)) = true
  | [], _ => rfl
  | r :: l, h => by
    show (PyData.strOk (T r) && PyData.canLayAll0 (l.map fun r => .str (T r))) = true
    rw [signs_ok (h r List.mem_cons_self), lay_strs l fun x hx => h x (List.mem_cons_of_mem _ hx)]
    rfl
theorem shaped_strs {l : List (List Nat)} (h : ∀ r ∈ l, Mi.isSigns r = true) : SeqAt.shaped (.list (l.map fun r => .str (T r))) = true := by
  show (PyData.canLayAll0 (l.map fun r => .str (T r)) && decide (PyData.depthAll (l.map fun r => .str (T r)) + 1 ≤ 64)) = true
  rw [lay_strs l h, depth_strs l]
  rfl
theorem dp_strs {K : PySem.W.Frag} {H : Hp} : ∀ l : List (List Nat), DpAll K H (l.map VT) (l.map fun r => .str (T r))
  | [] => .nil
  | r :: l => .cons (.str (T r)) (dp_strs l)
theorem eqv_nil (l : List (List Nat)) : PyData.eqv (.list (l.map fun r => .str (T r))) (.list []) = decide (l = []) := by
  cases l with
  | nil => rfl
  | cons r l => rfl
theorem jItems_some {xs : List V} {i : Nat} {k : Str} (h : judge xs = some (i, k)) : jItems xs = [.str "broken", .int (i : Nat), .str k] := by
  unfold jItems
  rw [h]
theorem jItems_none {xs : List V} (h : judge xs = none) : jItems xs = [.str "walk", .int (xs.length : Nat)] := by
  unfold jItems
  rw [h]
section
variable {P : Program} {w : World} {K : PySem.W.Frag} {mg : Str → Option Value} {base : Heap}
theorem ok_due {f fJ fS fD : Addr} {fd fdJ fdS fdD : FuncData} (F : Fun K "_law_round_due" "_law_round_due" sDue f fd) (B : Bl mg)
    (GJ : FnOk P w K mg base CX0 2 fJ fdJ ["_law_states"] spJudged) (kJ : PySem.W.keepIn K (.ref fJ) = true) (bJ : Binds K fdJ ["_law_states"] []) (gJ : mg "_law_judged" = some (.ref fJ))
    (FS : Fun K "_law_is_state" "_law_is_state" sIsSt fS fdS) (bS : Binds K fdS ["_law_value"] []) (gS : mg "_law_is_state" = some (.ref fS))
    (FD : Fun K "_law_differ" "_law_differ" sDiffer fD fdD) (bD : Binds K fdD ["_law_one", "_law_other"] []) (gD : mg "_law_differ" = some (.ref fD)) : FnOk P w K mg base CX0 3 f fd ["_law_states", "_law_pairs"] spDue := by
  have GS : FnOk P w K mg base CX0 1 fS fdS ["_law_value"] (spVB isStV) := ok_isSt FS B
  have GD : FnOk P w K mg base CX0 1 fD fdD ["_law_one", "_law_other"] spDif := ok_differ FD B
  refine F.ok scDue (fun vs H Q E h => ?_) (fun cdv A outer s H vs Q E hr h => ?_)
  · obtain ⟨a, xs, p, rfl, _⟩ := h
    rfl
  · obtain ⟨a, xs, p, rfl, ha, hne, hok, hlen, hp, k⟩ := h
    refine ⟨_, pss_cons (ps_set (i := 2) scDue.nd rfl (Or.inl rfl) (pe_call GJ hr (by rfl) gJ kJ bJ .nil pass0 (pa_cons (pv 0) pa_nil)))
      (pss_cons (ps_if (pt_cmpR op_eq (pe_ix ix_tup (pv 2) pe_int (fun _ _ => rfl)) pe_str (nomark _)) (pss_one (ps_ret (pv 2))) pss_nil)
      (pss_cons (ps_set (i := 3) scDue.nd rfl (Or.inl rfl) (pe_lst (pa_cons pe_str pa_nil)))
      (pss_cons (ps_for PassesOwn.never rfl (pi_range1 (by rfl) B.range (pa_cons (pe_op op_add (pe_op op_mul pe_int (pv 1)) pe_int) pa_nil)) (pg_name (i := 4) scDue.nd rfl (Or.inl rfl))
        (pss_one (ps_set (i := 3) scDue.nd rfl (Or.inl rfl) (pe_op op_cat
          (pe_lc (own := [("_law_row", 6)]) (g := gName 6) (tt := tYes) rfl scDue.nd (pi_seq (pv 3)) (blkOk_by (own := [("_law_row", 6)]) (N := nDue) (sc := defScope sDue) (by decide +kernel)) (fun _ _ _ _ _ => pg_name (i := 6) scDue.nd rfl (Or.inl rfl)) (fun _ _ _ _ _ => pts_nil) (fun _ _ _ _ _ => pe_op op_add_str (pv 6) pe_str))
          (pe_lc (own := [("_law_row", 6)]) (g := gName 6) (tt := tYes) rfl scDue.nd (pi_seq (pv 3)) (blkOk_by (own := [("_law_row", 6)]) (N := nDue) (sc := defScope sDue) (by decide +kernel)) (fun _ _ _ _ _ => pg_name (i := 6) scDue.nd rfl (Or.inl rfl)) (fun _ _ _ _ _ => pts_nil) (fun _ _ _ _ _ => pe_op op_add_str (pv 6) pe_str))))))
      (pss_cons (ps_setLc (i := 5) (own := [("_law_row", 6)]) (g := gName 6) (tt := tAnd (tB (tCall (spVB isStV) [] E0 (tCons (tVar 6) tNil))) (tTest (tOp (rIn K true) (tVar 6) (tVar 0)))) rfl scDue.nd rfl rfl rfl (pi_seq (pv 3)) (blkOk_by (own := [("_law_row", 6)]) (N := nDue) (sc := defScope sDue) (by decide +kernel)) (fun _ _ _ _ _ => pg_name (i := 6) scDue.nd rfl (Or.inl rfl))
          (fun _ _ _ _ _ => pts_one (pw_and (pt_val (pe_call GS (hr.mono (by decide)) (by rfl) gS FS.kp bS .nil pass0 (pa_cons (pv 6) pa_nil))) (pw_and1 (pt_cmpR op_notIn_seq (pv 6) (pv 0) (by rfl)))).pt) (fun _ _ _ _ _ => pv 6))
      (pss_cons (ps_if (pt_cmpR (op_neD (room64 hr)) (pv 5) (pe_lst pa_nil) (nomark _)) (pss_one (ps_ret (pe_tup (pa_cons pe_str (pa_cons (pe_callB (call_minT rfl) (by rfl) B.min PyProof.Rows.boot_min (pa_cons (pv 5) pa_nil)) pa_nil))))) pss_nil)
      (pss_one (ps_ret (pe_ifExp (pt_cmpR op_eq (pe_call GD (hr.mono (by decide)) (by rfl) gD FD.kp bD .nil pass0 (pa_cons (pe_ix ix_list (pv 0) pe_int (fun _ _ => rfl)) (pa_cons (pe_ix ix_list (pv 0) (pe_un un_neg pe_int) (fun _ _ => rfl)) pa_nil))) pe_int (nomark _))
        (pe_tup (pa_cons pe_str (pa_cons (pe_callB call_len (by rfl) B.len PySem.boot_len (pa_cons (pv 0) pa_nil)) pa_nil))) (pe_tup (pa_cons pe_str (pa_cons pe_int (pa_cons pe_str pa_nil)))))))))))), ?_⟩
    have l1 : (Str.ofString "1").length = 1 := by decide +kernel
    have l0 : (Str.ofString "0").length = 1 := by decide +kernel
    refine ⟨_, rfl, a, xs, rfl, ha, hok, hlen, fun H2 q0 s2 nq0 hq0 => ?_⟩
    have hj0 : ∀ v0 rest, jItems xs = v0 :: rest → SqT K H2 q0 (v0 :: rest) := fun v0 rest e => by rw [← e]; exact SqT.of hq0
    cases hj : judge xs with
    | some ik =>
      obtain ⟨i, kd⟩ := ik
      refine ⟨_, rfl, q0, _, 0, _, rfl, rfl, SqT.of hq0, (by rw [jItems_some hj]; rfl), rfl, _, rfl, ?_⟩
      have hw : decide (V.str ("broken" : Str) = V.str ("broken" : Str)) = true := by decide +kernel
      show if decide (V.str ("broken" : Str) = V.str ("broken" : Str)) = true then _ else _
      rw [hw]
      refine ifT ⟨_, rfl, ?_⟩
      refine k _ q0 s2 nq0 ?_
      have e : (dueP xs p).told = jItems xs := by
        unfold dueP
        rw [hj, jItems_some hj]
        rfl
      rw [e]
      exact hq0
    | none =>
      have hall := allSt_of hj hne
      have hw : decide (V.str ("walk" : Str) = V.str ("broken" : Str)) = false := by decide +kernel
      refine ⟨_, rfl, q0, _, 0, _, rfl, rfl, SqT.of hq0, (by rw [jItems_none hj]; rfl), rfl, _, rfl, ?_⟩
      show if decide (V.str ("walk" : Str) = V.str ("broken" : Str)) = true then _ else _
      rw [hw]
      refine ifF ⟨(by show 1 ≤ sizeLine; decide), fun q1 nq1 => ?_⟩
      have s3 := same_upd (o := .lst [.str (Str.ofString "")]) s2 nq1
      refine ⟨_, rfl, _, _, rfl, rfl, .inl ⟨by decide, by decide⟩, _, _, rfl, rfl, _, rfl, by omega, by omega, ?_⟩
      refine for_range (lo := 0) (n := (2 * (p : Int) + 1).toNat) (fun i σ H4 => ∃ qr y z t, σ = [some (.ref a), some (.int (p : Nat)), y, some (.ref qr), z, t, none] ∧ Same H H4 ∧ H qr = none ∧ H4 qr = some (.lst ((Mi.rowsM i).map VT)))
        ⟨q1, _, _, _, rfl, s3, s2.free nq1, by rw [upd_same, s_empty]; rfl⟩ ?_ ?_
      · rintro i σ H4 hi ⟨qr, y, z, t, rfl, s4, nqr, hqr⟩
        have hi9 : i ≤ 8 := by omega
        have hpow : (2 : Nat) ^ i ≤ 2 ^ 8 := Nat.pow_le_pow_right (by decide) hi9
        have hrl := Mi.rows_len i
        refine ⟨_, rfl, qr, .lst _, _, rfl, hqr, .inl rfl, fun D1 hD1 => ?_⟩
        have nD1 := s4.free hD1
        have neD1 : qr ≠ D1 := ne_of_none hqr hD1
        refine lc_it walk_seq (fun m H5 => Same H H5 ∧ H5 qr = some (.lst ((Mi.rowsM i).map VT)) ∧ H5 D1 = some (.lst (((Mi.rowsM i).take m).map fun r => VT (r ++ [48]))))
          ⟨same_upd s4 hD1, by rw [upd_ne neD1]; exact hqr, upd_same⟩ (fun m H5 _ h => h.2.1) ?_ ?_
        · rintro m x H5 H6 hm ⟨s5, hq5, hd5⟩ ⟨rfl, hx⟩
          obtain ⟨r, hr1, rfl⟩ : ∃ r, (Mi.rowsM i)[m]? = some r ∧ x = VT r := by
            rw [List.getElem?_map] at hx
            obtain ⟨r, h1, h2⟩ := Option.map_eq_some_iff.mp hx
            exact ⟨r, h1, h2.symm⟩
          obtain ⟨hr2, hr3⟩ := Mi.rows_mem (List.mem_of_getElem? hr1)
          have hml : m < (Mi.rowsM i).length := by rw [List.length_map] at hm; exact hm
          refine ⟨rfl, tyes_ite ⟨_, rfl, _, _, rfl, rfl, (by rw [l0, T_len]; exact small_line (by omega)), _, hd5, ?_, same_updN s5 nD1, by rw [upd_ne neD1]; exact hq5, ?_⟩⟩
          · rw [List.length_map, List.length_take]
            exact small1000 (by omega)
          · rw [upd_same, List.take_succ, hr1, s_zero, T_app]
            simp [VT]
        · rintro H5 ⟨s5, hq5, hd5⟩
          rw [List.length_map, List.take_length] at hd5
          refine ⟨_, rfl, qr, .lst _, _, rfl, hq5, .inl rfl, fun D2 hD2 => ?_⟩
          have nD2 := s5.free hD2
          have neD2 : qr ≠ D2 := ne_of_none hq5 hD2
          have neD12 : D1 ≠ D2 := ne_of_none hd5 hD2
          refine lc_it walk_seq (fun m H6 => Same H H6 ∧ H6 qr = some (.lst ((Mi.rowsM i).map VT)) ∧ H6 D1 = some (.lst ((Mi.rowsM i).map fun r => VT (r ++ [48]))) ∧ H6 D2 = some (.lst (((Mi.rowsM i).take m).map fun r => VT (r ++ [49]))))
            ⟨same_upd s5 hD2, by rw [upd_ne neD2]; exact hq5, by rw [upd_ne neD12]; exact hd5, upd_same⟩ (fun m H6 _ h => h.2.1) ?_ ?_
          · rintro m x H6 H7 hm ⟨s6, hq6, hd6, he6⟩ ⟨rfl, hx⟩
            obtain ⟨r, hr1, rfl⟩ : ∃ r, (Mi.rowsM i)[m]? = some r ∧ x = VT r := by
              rw [List.getElem?_map] at hx
              obtain ⟨r, h1, h2⟩ := Option.map_eq_some_iff.mp hx
              exact ⟨r, h1, h2.symm⟩
            obtain ⟨hr2, hr3⟩ := Mi.rows_mem (List.mem_of_getElem? hr1)
            have hml : m < (Mi.rowsM i).length := by rw [List.length_map] at hm; exact hm
            refine ⟨rfl, tyes_ite ⟨_, rfl, _, _, rfl, rfl, (by rw [l1, T_len]; exact small_line (by omega)), _, he6, ?_, same_updN s6 nD2, by rw [upd_ne neD2]; exact hq6, by rw [upd_ne neD12]; exact hd6, ?_⟩⟩
            · rw [List.length_map, List.length_take]
              exact small1000 (by omega)
            · rw [upd_same, List.take_succ, hr1, s_one, T_app]
              simp [VT]
          · rintro H6 ⟨s6, hq6, hd6, he6⟩
            rw [List.length_map, List.take_length] at he6
            refine ⟨_, _, _, _, rfl, rfl, hd6, he6, ?_, fun q2 nq2 => ?_⟩
            · rw [List.length_map, List.length_map]
              exact small_line (by omega)
            · refine ⟨q2, _, _, _, rfl, same_upd s6 nq2, s6.free nq2, ?_⟩
              rw [upd_same]
              show some (HO.lst _) = some (HO.lst (((Mi.rowsM i).map (· ++ [48]) ++ (Mi.rowsM i).map (· ++ [49])).map VT))
              rw [List.map_append, List.map_map, List.map_map]
              rfl
      · rintro σ H4 ⟨qr, y, z, t, rfl, s4, nqr, hqr⟩
        have e0 : (2 * (p : Int) + 1).toNat = 2 * p + 1 := by omega
        rw [e0] at hqr
        have hpow : (2 : Nat) ^ (2 * p + 1) ≤ 2 ^ 9 := Nat.pow_le_pow_right (by decide) (by omega)
        have hrl := Mi.rows_len (2 * p + 1)
        refine ⟨_, rfl, qr, .lst _, _, rfl, hqr, .inl rfl, fun D1 hD1 => ?_⟩
        have nD1 := s4.free hD1
        have neD1 : qr ≠ D1 := ne_of_none hqr hD1
        have hflat : xs.all flatV = true := flat_txt fun x hx => let ⟨l, e, _⟩ := hall x hx; ⟨l, e⟩
        have hin : ∀ l, inV (VT l) xs = decide (VT l ∈ xs) := fun l => inV_txt fun x hx => let ⟨l, e, _⟩ := hall x hx; ⟨l, e⟩
        refine lc_it walk_seq (fun m H5 => Same H H5 ∧ H5 qr = some (.lst ((Mi.rowsM (2 * p + 1)).map VT)) ∧ H5 D1 = some (.lst ((((Mi.rowsM (2 * p + 1)).take m).filter fun r => Mi.isSt r && !decide (VT r ∈ xs)).map VT)))
          ⟨same_upd s4 hD1, by rw [upd_ne neD1]; exact hqr, upd_same⟩ (fun m H5 _ h => h.2.1) ?_ ?_
        · rintro m x H5 H6 hm ⟨s5, hq5, hd5⟩ ⟨rfl, hx⟩
          obtain ⟨r, hr1, rfl⟩ : ∃ r, (Mi.rowsM (2 * p + 1))[m]? = some r ∧ x = VT r := by
            rw [List.getElem?_map] at hx
            obtain ⟨r, h1, h2⟩ := Option.map_eq_some_iff.mp hx
            exact ⟨r, h1, h2.symm⟩
          obtain ⟨hr2, hr3⟩ := Mi.rows_mem (List.mem_of_getElem? hr1)
          have hml : m < (Mi.rowsM (2 * p + 1)).length := by rw [List.length_map] at hm; exact hm
          have hstep : ((Mi.rowsM (2 * p + 1)).take (m + 1)).filter (fun r => Mi.isSt r && !decide (VT r ∈ xs)) = ((Mi.rowsM (2 * p + 1)).take m).filter (fun r => Mi.isSt r && !decide (VT r ∈ xs)) ++ (if (Mi.isSt r && !decide (VT r ∈ xs)) = true then [r] else []) := by
            rw [List.take_succ, hr1, List.filter_append]
            congr 1
            show List.filter _ [r] = _
            rw [List.filter_cons]
            rfl
          have hlen2 := List.length_filter_le (fun r => Mi.isSt r && !decide (VT r ∈ xs)) ((Mi.rowsM (2 * p + 1)).take m)
          rw [List.length_take] at hlen2
          refine ⟨rfl, _, rfl, VT r, rfl, .str r (by omega) hr3, fun H7 s7 => ⟨Mi.isSt r, rfl, ?_⟩⟩
          have s8 := same_tr s5 s7
          have hq8 := s7 _ _ hq5
          have hd8 := s7 _ _ hd5
          cases hs : Mi.isSt r with
          | false =>
            rw [hs, Bool.false_and, if_neg (by decide), List.append_nil] at hstep
            refine ifF (ifF ⟨s8, hq8, ?_⟩)
            rw [hstep]
            exact hd8
          | true =>
            rw [hs, Bool.true_and] at hstep
            refine ifT ⟨_, rfl, _, rfl, a, xs, rfl, .inl (SqL.of (s8 _ _ ha)), rfl, hflat, _, rfl, ?_⟩
            show if (!inV (VT r) xs) = true then _ else _
            rw [hin r]
            cases hm2 : (!decide (VT r ∈ xs)) with
            | false =>
              rw [hm2, if_neg (by decide), List.append_nil] at hstep
              refine ifF ⟨s8, hq8, ?_⟩
              rw [hstep]
              exact hd8
            | true =>
              rw [hm2, if_pos rfl] at hstep
              refine ifT ⟨_, rfl, _, hd8, ?_, same_updN s8 nD1, by rw [upd_ne neD1]; exact hq8, ?_⟩
              · rw [List.length_map]
                exact small1000 (by omega)
              · rw [upd_same, hstep, List.map_append]
                rfl
        · rintro H5 ⟨s5, hq5, hd5⟩
          rw [List.length_map, List.take_length] at hd5
          have hd5' : H5 D1 = some (.lst ((lackRows xs p).map VT)) := hd5
          have hsg : ∀ r ∈ lackRows xs p, Mi.isSigns r = true := fun r hr => (Mi.rows_mem (List.mem_filter.mp hr).1).2
          refine ⟨_, rfl, (by show 0 ≤ sizeLine; decide), fun q2 nq2 => ?_⟩
          have ne2 : D1 ≠ q2 := ne_of_none hd5' nq2
          have s6 := same_upd (o := .lst []) s5 nq2
          have hd6 : upd H5 q2 (.lst []) D1 = some (.lst ((lackRows xs p).map VT)) := by rw [upd_ne ne2]; exact hd5'
          refine ⟨.list ((lackRows xs p).map fun r => .str (T r)), .list [], .lst (SqL.of hd6) (dp_strs _), .lst (SqL.of upd_same) .nil, shaped_strs hsg, by decide +kernel, _, rfl, ?_⟩
          show if (!PyData.eqv (.list ((lackRows xs p).map fun r => .str (T r))) (.list [])) = true then _ else _
          rw [eqv_nil]
          have ha6 := s6 _ _ ha
          obtain ⟨x0, r0, hx0⟩ := List.exists_cons_of_ne_nil hne
          obtain ⟨z0, e0, hs0, hl0⟩ := hall x0 (by rw [hx0]; exact List.mem_cons_self)
          have hi0 : xs[0]? = some (VT z0) := by rw [hx0, e0]; rfl
          have hd0 : xs.getD 0 .non = VT z0 := getD_of hi0
          have hlast := atI_end hne
          have hlm : lastV xs ∈ xs := by
            unfold lastV
            have : xs.length - 1 < xs.length := by have := List.length_pos_iff.mpr hne; omega
            simp [this]
          obtain ⟨l9, e9, hs9, hl9⟩ := hall _ hlm
          have hll : z0.length = l9.length := hl0.trans hl9.symm
          have h401 := (isSt_len hs9).1
          cases hnil : decide (lackRows xs p = []) with
          | false =>
            have hne2 := of_decide_eq_false hnil
            refine ifT ⟨_, rfl, D1, _, rfl, hd6, hne2, (by show 2 ≤ sizeLine; decide), fun q3 nq3 => ?_⟩
            refine k _ q3 (same_upd s6 nq3) (s6.free nq3) ?_
            rw [upd_same]
            unfold dueP
            rw [hj]
            show _ = some (HO.tup (Pd.told (if lackRows xs p ≠ [] then Pd.lacks (Mi.minL (lackRows xs p)) else _)))
            rw [if_pos hne2]
            rfl
          | true =>
            have hnil2 := of_decide_eq_true hnil
            have hdue : dueP xs p = if Mi.unlike z0 l9 = 1 then Pd.whole (xs.length : Nat) else Pd.broken 0 "switch" := by
              unfold dueP
              rw [hj]
              show (if lackRows xs p ≠ [] then Pd.lacks (Mi.minL (lackRows xs p)) else _) = _
              rw [if_neg (by rw [hnil2]; simp), hd0, e9]
              rfl
            refine ifF ⟨_, rfl, a, xs, 0, VT z0, rfl, rfl, SqL.of ha6, atI_nat (j := 0) hi0, _, rfl, 1, rfl, a, xs, -1, lastV xs, rfl, rfl, SqL.of ha6, hlast, z0, l9, by rw [e9]; rfl, by omega, by omega, by omega, fun H7 s7 => ⟨rfl, _, rfl, ?_⟩⟩
            have s8 := same_tr s6 s7
            show if decide (V.int (Mi.unlike z0 l9 : Nat) = V.int 1) = true then _ else _
            have hd1 : decide (V.int (Mi.unlike z0 l9 : Nat) = V.int 1) = decide (Mi.unlike z0 l9 = 1) := by
              by_cases h : Mi.unlike z0 l9 = 1
              · rw [h]; simp
              · rw [decide_eq_false h, decide_eq_false]
                intro e
                injection e with e
                exact h (by omega)
            rw [hd1]
            cases hu : decide (Mi.unlike z0 l9 = 1) with
            | true =>
              rw [if_pos (of_decide_eq_true hu)] at hdue
              refine ifT ⟨_, rfl, _, xs.length, rfl, .inl ⟨xs, SqL.of (s8 _ _ ha), rfl⟩, (by show 2 ≤ sizeLine; decide), fun q3 nq3 => ?_⟩
              refine k _ q3 (same_upd s8 nq3) (s8.free nq3) ?_
              rw [upd_same, hdue]
              rfl
            | false =>
              rw [if_neg (of_decide_eq_false hu)] at hdue
              refine ifF ⟨(by show 3 ≤ sizeLine; decide), fun q3 nq3 => ?_⟩
              refine k _ q3 (same_upd s8 nq3) (s8.free nq3) ?_
              rw [upd_same, hdue]
              rfl
end
end Ev
namespace Ev
open PySem L2 PyProof.Rows
/-! ### the heap of the script, the picks -/
def Hpk (H : Hp) (h L : Addr) (cells : List Int) (at_ rest : Int) : Prop := h ≠ L ∧ H h = some (.lst [.ref L, .int at_, .int rest]) ∧ H L = some (.lst (cells.map V.int)) ∧ cells.length ≤ 61 ∧ 0 ≤ at_ ∧ 0 ≤ rest
def spHeap (K : PySem.W.Frag) : Sp := fun vs H Q _ => ∃ a, ∃ ns : List Int, vs = [.ref a] ∧ SqL K H a (ns.map V.int) ∧ ∀ H' h L cells, Same H H' → H h = none → Hpk H' h L cells 0 0 → Q (.ref h) H'
def spPick : Sp := fun vs H Q _ => ∃ h L cells at_ rest many, vs = [.ref h, .int many] ∧ Hpk H h L cells at_ rest ∧ at_ ≤ 1000000 ∧ 0 < many ∧ many < 1000000 ∧
  ∀ H' r at' rest', But h H H' → Hpk H' h L cells at' rest' → at' ≤ at_ + 1 → 0 ≤ r → r < many → Q (.int r) H'
theorem cutV_ints (ns : List Int) (lo hi : Option Int) : ∃ ms : List Int, cutV (ns.map V.int) lo hi = ms.map V.int := by
  unfold cutV
  exact ⟨_, by rw [← List.map_drop, ← List.map_take]⟩
theorem dp_ints {K : PySem.W.Frag} {H : Hp} : ∀ l : List Int, DpAll K H (l.map V.int) (l.map PyData.int)
  | [] => .nil
  | r :: l => .cons (.int r) (dp_ints l)
theorem lay_ints : ∀ l : List Int, PyData.canLayAll0 (l.map PyData.int) = true
  | [] => rfl
  | r :: l => by
    show (true && PyData.canLayAll0 (l.map PyData.int)) = true
    rw [lay_ints l]
    rfl
theorem depth_ints : ∀ l : List Int, PyData.depthAll (l.map PyData.int) = 0
  | [] => rfl
  | r :: l => by
    show max (PyData.depth (.int r)) (PyData.depthAll (l.map PyData.int)) = 0
    rw [depth_ints l]
    rfl
theorem shaped_ints (l : List Int) : SeqAt.shaped (.list (l.map PyData.int)) = true := by
  show (PyData.canLayAll0 (l.map PyData.int) && decide (PyData.depthAll (l.map PyData.int) + 1 ≤ 64)) = true
  rw [lay_ints l, depth_ints l]
  rfl
theorem eqv_nilI (l : List Int) : PyData.eqv (.list (l.map PyData.int)) (.list []) = decide (l = []) := by
  cases l with
  | nil => rfl
  | cons r l => rfl
section
variable {P : Program} {w : World} {K : PySem.W.Frag} {mg : Str → Option Value} {base : Heap}
theorem ok_heap {f : Addr} {fd : FuncData} (F : Fun K "_law_heap" "_law_heap" sHeap f fd) (B : Bl mg) : FnOk P w K mg base CX0 1 f fd ["_law_script"] (spHeap K) := by
  refine F.ok scHeap (fun vs H Q E h => ?_) (fun cdv A outer s H vs Q E hr h => ?_)
  · obtain ⟨a, ns, rfl, _⟩ := h
    rfl
  · obtain ⟨a, ns, rfl, ha, k⟩ := h
    refine ⟨_, pss_one (ps_ret (pe_lst (pa_cons (pe_lc (own := [("_law_cell", 1)]) (g := gName 1) (tt := tYes) rfl scHeap.nd (pi_seq (pe_slice sl_list (pv 0) po_none (po_some pe_int)))
        (blkOk_by (own := [("_law_cell", 1)]) (N := nHeap) (sc := defScope sHeap) (by decide +kernel)) (fun _ _ _ _ _ => pg_name (i := 1) scHeap.nd rfl (Or.inl rfl)) (fun _ _ _ _ _ => pts_nil)
        (fun _ _ _ _ _ => pe_callTy call_int1 (by rfl) B.int (by decide +kernel) (pa_cons (pv 1) pa_nil))) (pa_cons pe_int (pa_cons pe_int pa_nil))))), ?_⟩
    obtain ⟨ms, hms⟩ := cutV_ints ns none (some 61)
    have hml : ms.length ≤ 61 := by
      have e : (cutV (ns.map V.int) none (some (61 : Nat))).length = ms.length := by
        rw [show ((61 : Nat) : Int) = 61 from rfl, hms, List.length_map]
      rw [cutV_to, List.length_take] at e
      omega
    refine ⟨_, rfl, 61, rfl, a, _, rfl, ha, fun p np => ?_⟩
    rw [hms]
    have s1 := same_upd (o := .lst (ms.map V.int)) (Same.refl H) np
    refine ⟨p, _, ms.map V.int, rfl, upd_same, .inl rfl, fun D hD => ?_⟩
    have hpD : p ≠ D := ne_of_none (upd_same (H := H) (a := p) (o := .lst (ms.map V.int))) hD
    have nD : H D = none := s1.free hD
    refine lc_it walk_seq (fun i H2 => Same H H2 ∧ H2 p = some (.lst (ms.map V.int)) ∧ H2 D = some (.lst ((ms.take i).map V.int))) ⟨same_upd s1 hD, by rw [upd_ne hpD]; exact upd_same, upd_same⟩ (fun i H2 _ h => h.2.1) ?_ ?_
    · rintro i x H2 H3 hi ⟨s2, hp2, hd⟩ ⟨rfl, hx⟩
      obtain ⟨z, hz, rfl⟩ : ∃ z, ms[i]? = some z ∧ x = V.int z := by
        rw [List.getElem?_map] at hx
        obtain ⟨r, h1, h2⟩ := Option.map_eq_some_iff.mp hx
        exact ⟨r, h1, h2.symm⟩
      refine ⟨rfl, tyes_ite ⟨_, rfl, .inl ⟨z, rfl, _, hd, ?_, same_updN s2 nD, by rw [upd_ne hpD]; exact hp2, ?_⟩⟩⟩
      · rw [List.length_map, List.length_take]
        exact small1000 (by omega)
      · rw [upd_same, List.take_succ, hz]
        simp
    · rintro H2 ⟨s2, hp2, hd⟩
      rw [List.length_map, List.take_length] at hd
      refine ⟨(by show 3 ≤ sizeLine; decide), fun q nq => ?_⟩
      have ne : D ≠ q := ne_of_none hd nq
      exact k _ q D ms (same_upd s2 nq) (s2.free nq) ⟨ne.symm, upd_same, by rw [upd_ne ne]; exact hd, hml, by omega, by omega⟩
theorem base1_lt (c at_ : Int) (h1 : 0 ≤ at_) (h2 : at_ ≤ 1000000) : (c % 2147483587 + 48611 * at_ + 7919).natAbs < 2 ^ 64 := by
  have a1 := Int.emod_nonneg c (b := 2147483587) (by omega)
  have a2 := Int.emod_lt_of_pos c (b := 2147483587) (by omega)
  omega
theorem base2_lt (M at_ : Int) (m1 : 0 ≤ M) (m2 : M < 2147483579) (h1 : 0 ≤ at_) (h2 : at_ ≤ 1000000) : (M * (2 * at_ + 5381) + 70001 * at_ * at_ + 33461).natAbs < 2 ^ 64 := by
  have e1 : M * (2 * at_ + 5381) ≤ 2147483579 * 2005381 := Int.mul_le_mul (by omega) (by omega) (by omega) (by omega)
  have e2 : 0 ≤ M * (2 * at_ + 5381) := Int.mul_nonneg m1 (by omega)
  have e3 : 70001 * at_ * at_ ≤ 70001000000 * 1000000 := Int.mul_le_mul (by omega) (by omega) (by omega) (by omega)
  have e4 : 0 ≤ 70001 * at_ * at_ := Int.mul_nonneg (by omega) h1
  omega
theorem ok_pick {f : Addr} {fd : FuncData} (F : Fun K "_law_pick" "_law_pick" sPick f fd) (B : Bl mg) : FnOk P w K mg base CX0 1 f fd ["_law_heap_here", "_law_many"] spPick := by
  refine F.ok scPick (fun vs H Q E h => ?_) (fun cdv A outer s H vs Q E hr h => ?_)
  · obtain ⟨h, L, cells, at_, rest, many, rfl, _⟩ := h
    rfl
  · obtain ⟨h, L, cells, at_, rest, many, rfl, ⟨hne, hh, hL, hcl, hat, hrest⟩, hat2, hm0, hm1, k⟩ := h
    refine ⟨_, pss_cons (ps_if (pt_cmpR op_gt (pe_ix ix_list (pv 0) pe_int (fun _ _ => rfl)) pe_int (nomark _))
        (pss_cons (ps_set (i := 2) scPick.nd rfl (Or.inl rfl) (pe_callTy call_int1 (by rfl) B.int (by decide +kernel) (pa_cons (pe_ix ix_list (pv 0) pe_int (fun _ _ => rfl)) pa_nil)))
        (pss_cons (ps_asg (g := gSub (tVar 0) (tC (.int 2)) rSetL) (pe_op op_fdiv (pv 2) (pv 1)) (pg_sub (pv 0) pe_int set_list))
        (pss_one (ps_ret (pe_op op_mod (pe_callTy call_int1 (by rfl) B.int (by decide +kernel) (pa_cons (pv 2) pa_nil)) (pv 1)))))) pss_nil)
      (pss_cons (ps_set (i := 3) scPick.nd rfl (Or.inl rfl) (pe_ix ix_list (pv 0) pe_int (fun _ _ => rfl)))
      (pss_cons (ps_asg (g := gSub (tVar 0) (tC (.int 1)) rSetL) (pe_op op_add (pv 3) pe_int) (pg_sub (pv 0) pe_int set_list))
      (pss_cons (ps_if (pt_cmpR (op_eqD (room64 hr)) (pe_ix ix_list (pv 0) pe_int (fun _ _ => rfl)) (pe_lst pa_nil) (nomark _)) (pss_one (ps_ret pe_int)) pss_nil)
      (pss_cons (ps_set (i := 4) scPick.nd rfl (Or.inl rfl) (pe_ix ix_list (pe_ix ix_list (pv 0) pe_int (fun _ _ => rfl)) (pe_op op_mod (pe_callTy call_int1 (by rfl) B.int (by decide +kernel) (pa_cons (pv 3) pa_nil)) (pe_callB call_len_seq (by rfl) B.len PySem.boot_len (pa_cons (pe_ix ix_list (pv 0) pe_int (fun _ _ => rfl)) pa_nil))) (fun _ _ => rfl)))
      (pss_cons (ps_if (pw_and (pt_cmpR op_lt (pv 3) (pe_callB call_len_seq (by rfl) B.len PySem.boot_len (pa_cons (pe_ix ix_list (pv 0) pe_int (fun _ _ => rfl)) pa_nil)) (nomark _))
            (pw_and1 (pt_cmpR op_ge (pe_callB call_abs (by rfl) B.abs PyProof.Rows.boot_abs (pa_cons (pv 4) pa_nil)) (pe_op op_pow pe_int pe_int) (nomark _)))).pt
        (pss_cons (ps_set (i := 2) scPick.nd rfl (Or.inl rfl) (pe_op op_sub (pe_callB call_abs (by rfl) B.abs PyProof.Rows.boot_abs (pa_cons (pv 4) pa_nil)) (pe_op op_pow pe_int pe_int)))
        (pss_cons (ps_asg (g := gSub (tVar 0) (tC (.int 2)) rSetL) (pe_op op_fdiv (pv 2) (pv 1)) (pg_sub (pv 0) pe_int set_list))
        (pss_one (ps_ret (pe_op op_mod (pe_callTy call_int1 (by rfl) B.int (by decide +kernel) (pa_cons (pv 2) pa_nil)) (pv 1)))))) pss_nil)
      (pss_cons (ps_set (i := 5) scPick.nd rfl (Or.inl rfl) (pe_op op_mod (pe_callTy call_int1 (by rfl) B.int (by decide +kernel) (pa_cons (pe_op op_pow (pe_op op_add (pe_op op_add (pe_op op_mod (pe_callTy call_int1 (by rfl) B.int (by decide +kernel) (pa_cons (pv 4) pa_nil)) pe_int) (pe_op op_mul pe_int (pv 3))) pe_int) pe_int) pa_nil)) pe_int))
      (pss_cons (ps_set (i := 5) scPick.nd rfl (Or.inl rfl) (pe_op op_mod (pe_callTy call_int1 (by rfl) B.int (by decide +kernel) (pa_cons (pe_op op_pow (pe_op op_add (pe_op op_add (pe_op op_mul (pv 5) (pe_op op_add (pe_op op_mul pe_int (pv 3)) pe_int)) (pe_op op_mul (pe_op op_mul pe_int (pv 3)) (pv 3))) pe_int) pe_int) pa_nil)) pe_int))
      (pss_one (ps_ret (pe_op op_mod (pe_callTy call_int1 (by rfl) B.int (by decide +kernel) (pa_cons (pe_op op_fdiv (pv 5) pe_int) pa_nil)) (pv 1))))))))))), ?_⟩
    have but : ∀ o : HO, But h H (upd H h o) := fun o b u hb e => by
      rw [upd_ne hb]
      exact e
    refine ⟨_, rfl, h, _, 2, .int rest, rfl, rfl, SqL.of hh, rfl, _, _, rfl, rfl, _, rfl, iteB (fun q => ?_) (fun q => ?_)⟩
    · refine ⟨_, rfl, h, _, 2, .int rest, rfl, rfl, SqL.of hh, rfl, .inl ⟨_, rfl, ?_⟩⟩
      refine ⟨_, rfl, _, rfl, _, _, rfl, rfl, ⟨hm0, by omega⟩, _, rfl, h, _, 2, 2, rfl, rfl, hh, rfl, ?_⟩
      refine ⟨_, rfl, .inl ⟨_, rfl, _, rfl, _, _, rfl, rfl, hm0, ?_⟩⟩
      exact k _ _ at_ (rest / many) (but _) ⟨hne, upd_same, by rw [upd_ne hne.symm]; exact hL, hcl, hat, Int.ediv_nonneg hrest (by omega)⟩ (by omega) (Int.emod_nonneg _ (by omega)) (Int.emod_lt_of_pos _ hm0)
    · refine ⟨_, rfl, h, _, 1, .int at_, rfl, rfl, SqL.of hh, rfl, ?_⟩
      refine ⟨_, rfl, _, _, rfl, rfl, _, rfl, h, _, 1, 1, rfl, rfl, hh, rfl, ?_⟩
      have hh1 : upd H h (.lst [.ref L, .int (at_ + 1), .int rest]) h = some (.lst [.ref L, .int (at_ + 1), .int rest]) := upd_same
      have hL1 : upd H h (.lst [.ref L, .int (at_ + 1), .int rest]) L = some (.lst (cells.map V.int)) := by rw [upd_ne hne.symm]; exact hL
      refine ⟨_, rfl, h, _, 0, .ref L, rfl, rfl, SqL.of hh1, rfl, (by show 0 ≤ sizeLine; decide), fun q3 nq3 => ?_⟩
      have n1 : h ≠ q3 := ne_of_none hh1 nq3
      have n2 : L ≠ q3 := ne_of_none hL1 nq3
      have hh2 : upd (upd H h (.lst [.ref L, .int (at_ + 1), .int rest])) q3 (.lst []) h = some (.lst [.ref L, .int (at_ + 1), .int rest]) := by rw [upd_ne n1]; exact hh1
      have hL2 : upd (upd H h (.lst [.ref L, .int (at_ + 1), .int rest])) q3 (.lst []) L = some (.lst (cells.map V.int)) := by rw [upd_ne n2]; exact hL1
      have b3 : But h H (upd (upd H h (.lst [.ref L, .int (at_ + 1), .int rest])) q3 (.lst [])) := fun b u hb e => by
        have e1 : upd H h (.lst [.ref L, .int (at_ + 1), .int rest]) b = some u := by rw [upd_ne hb]; exact e
        rw [upd_ne (ne_of_none e1 nq3)]
        exact e1
      have p3 : Hpk (upd (upd H h (.lst [.ref L, .int (at_ + 1), .int rest])) q3 (.lst [])) h L cells (at_ + 1) rest := ⟨hne, hh2, hL2, hcl, by omega, hrest⟩
      refine ⟨.list (cells.map PyData.int), .list [], .lst (SqL.of hL2) (dp_ints cells), .lst (SqL.of upd_same) .nil, shaped_ints cells, by decide +kernel, _, rfl, ?_⟩
      rw [eqv_nilI]
      cases hnil : decide (cells = []) with
      | true => exact ifT (k _ 0 (at_ + 1) rest b3 p3 (by omega) (by omega) hm0)
      | false =>
        have hcne : cells ≠ [] := of_decide_eq_false hnil
        have hlp : 0 < cells.length := List.length_pos_iff.mpr hcne
        have hi1 := Int.emod_nonneg at_ (b := (cells.length : Nat)) (by omega)
        have hi2 := Int.emod_lt_of_pos at_ (b := (cells.length : Nat)) (by omega)
        have hlt : (at_ % (cells.length : Nat)).toNat < cells.length := by omega
        obtain ⟨c, hc⟩ : ∃ c, cells[(at_ % (cells.length : Nat)).toNat]? = some c := ⟨_, List.getElem?_eq_getElem hlt⟩
        have hml : ((cells.map V.int).length : Nat) = cells.length := List.length_map _
        have hat3 : atI (cells.map V.int) (at_ % ((cells.map V.int).length : Nat)) = some (.int c) := by
          rw [hml, show at_ % (cells.length : Nat) = (((at_ % (cells.length : Nat)).toNat : Nat) : Int) by omega]
          refine atI_nat ?_
          rw [List.getElem?_map, hc]
          rfl
        refine ifF ⟨_, rfl, h, _, 0, .ref L, rfl, rfl, SqL.of hh2, rfl, _, rfl, .inl ⟨_, rfl, _, rfl, h, _, 0, .ref L, rfl, rfl, SqL.of hh2, rfl, L, _, rfl, .inl (SqL.of hL2), _, _, rfl, rfl, ?_, L, _, _, .int c, rfl, rfl, SqL.of hL2, hat3, ?_⟩⟩
        · show (0 : Int) < ((cells.map V.int).length : Nat)
          rw [hml]
          omega
        refine ⟨_, rfl, _, rfl, h, _, 0, .ref L, rfl, rfl, SqL.of hh2, rfl, L, _, rfl, .inl (SqL.of hL2), _, _, rfl, rfl, _, rfl, iteB (fun e1 => ?_) (fun e1 => ifF ?_)⟩
        · refine ⟨_, rfl, c, rfl, _, _, rfl, rfl, ⟨by decide, by decide, by decide⟩, _, _, rfl, rfl, _, rfl, iteB (fun e2 => ?_) (fun e2 => ?_)⟩
          · have e3 : ((10 : Int) ^ (18 : Int).toNat) ≤ (if c < 0 then -c else c) := of_decide_eq_true e2
            refine ⟨_, rfl, c, rfl, _, _, rfl, rfl, ⟨by decide, by decide, by decide⟩, _, _, rfl, rfl, ?_⟩
            refine ⟨_, rfl, _, rfl, _, _, rfl, rfl, ⟨hm0, by omega⟩, _, rfl, h, _, 2, 2, rfl, rfl, hh2, rfl, ?_⟩
            refine ⟨_, rfl, .inl ⟨_, rfl, _, rfl, _, _, rfl, rfl, hm0, ?_⟩⟩
            refine k _ _ (at_ + 1) (((if c < 0 then -c else c) - 10 ^ (18 : Int).toNat) / many) (fun b u hb e => ?_) ⟨hne, upd_same, by rw [upd_ne hne.symm]; exact hL2, hcl, by omega, Int.ediv_nonneg (Int.sub_nonneg_of_le e3) (by omega)⟩ (by omega) (Int.emod_nonneg _ (by omega)) (Int.emod_lt_of_pos _ hm0)
            rw [upd_ne hb]
            exact b3 b u hb e
          · refine ⟨_, rfl, .inl ⟨_, rfl, _, _, rfl, rfl, (show (0 : Int) < 2147483587 by decide), _, rfl, _, _, rfl, rfl, .inl ⟨by decide, by decide⟩, _, _, rfl, rfl, _, _, rfl, rfl, _, _, rfl, rfl, ⟨by decide, by decide, base1_lt c at_ hat hat2⟩, .inl ⟨_, rfl, _, _, rfl, rfl, (show (0 : Int) < 2147483579 by decide), ?_⟩⟩⟩
            have hM1 := Int.emod_nonneg ((c % 2147483587 + 48611 * at_ + 7919) ^ (5 : Int).toNat) (b := 2147483579) (by omega)
            have hM2 := Int.emod_lt_of_pos ((c % 2147483587 + 48611 * at_ + 7919) ^ (5 : Int).toNat) (b := 2147483579) (by omega)
            refine ⟨_, rfl, _, rfl, _, _, rfl, rfl, .inl ⟨by decide, by decide⟩, _, _, rfl, rfl, _, _, rfl, rfl, .inr ⟨?_, ?_⟩, _, rfl, _, _, rfl, rfl, .inl ⟨by decide, by decide⟩, _, rfl, _, _, rfl, rfl, .inr ⟨?_, ?_⟩, _, _, rfl, rfl, _, _, rfl, rfl, _, _, rfl, rfl, ⟨by decide, by decide, base2_lt _ at_ hM1 hM2 hat hat2⟩, .inl ⟨_, rfl, _, _, rfl, rfl, (show (0 : Int) < 2147483563 by decide), ?_⟩⟩
            · show -(2 ^ 64 : Int) < 2 * at_ + 5381; omega
            · show 2 * at_ + 5381 < (2 ^ 64 : Int); omega
            · show -(2 ^ 64 : Int) < at_; omega
            · show at_ < (2 ^ 64 : Int); omega
            refine ⟨_, rfl, _, _, rfl, rfl, ⟨by decide, by decide⟩, .inl ⟨_, rfl, _, rfl, _, _, rfl, rfl, hm0, ?_⟩⟩
            exact k _ _ (at_ + 1) rest b3 p3 (by omega) (Int.emod_nonneg _ (by omega)) (Int.emod_lt_of_pos _ hm0)
        · refine ⟨_, rfl, .inl ⟨_, rfl, _, _, rfl, rfl, (show (0 : Int) < 2147483587 by decide), _, rfl, _, _, rfl, rfl, .inl ⟨by decide, by decide⟩, _, _, rfl, rfl, _, _, rfl, rfl, _, _, rfl, rfl, ⟨by decide, by decide, base1_lt c at_ hat hat2⟩, .inl ⟨_, rfl, _, _, rfl, rfl, (show (0 : Int) < 2147483579 by decide), ?_⟩⟩⟩
          have hM1 := Int.emod_nonneg ((c % 2147483587 + 48611 * at_ + 7919) ^ (5 : Int).toNat) (b := 2147483579) (by omega)
          have hM2 := Int.emod_lt_of_pos ((c % 2147483587 + 48611 * at_ + 7919) ^ (5 : Int).toNat) (b := 2147483579) (by omega)
          refine ⟨_, rfl, _, rfl, _, _, rfl, rfl, .inl ⟨by decide, by decide⟩, _, _, rfl, rfl, _, _, rfl, rfl, .inr ⟨?_, ?_⟩, _, rfl, _, _, rfl, rfl, .inl ⟨by decide, by decide⟩, _, rfl, _, _, rfl, rfl, .inr ⟨?_, ?_⟩, _, _, rfl, rfl, _, _, rfl, rfl, _, _, rfl, rfl, ⟨by decide, by decide, base2_lt _ at_ hM1 hM2 hat hat2⟩, .inl ⟨_, rfl, _, _, rfl, rfl, (show (0 : Int) < 2147483563 by decide), ?_⟩⟩
          · show -(2 ^ 64 : Int) < 2 * at_ + 5381; omega
          · show 2 * at_ + 5381 < (2 ^ 64 : Int); omega
          · show -(2 ^ 64 : Int) < at_; omega
          · show at_ < (2 ^ 64 : Int); omega
          refine ⟨_, rfl, _, _, rfl, rfl, ⟨by decide, by decide⟩, .inl ⟨_, rfl, _, rfl, _, _, rfl, rfl, hm0, ?_⟩⟩
          exact k _ _ (at_ + 1) rest b3 p3 (by omega) (Int.emod_nonneg _ (by omega)) (Int.emod_lt_of_pos _ hm0)
end
end Ev
namespace Ev
open PySem L2 PyProof.Rows
/-! ### lists of data: what they show -/
inductive Dv (H : Hp) : V → PyData → Prop where
  | non : Dv H .non .none
  | bl (b : Bool) : Dv H (.bl b) (.bool b)
  | int (i : Int) (h : i.natAbs ≤ 100000) : Dv H (.int i) (.int i)
  | str (l : List Nat) (h : l.length ≤ 20) (b : Mi.isSigns l = true) : Dv H (VT l) (.str (T l))
  | lst {a : Addr} (l : List Nat) (h : l.length ≤ 20) (b : Mi.isSigns l = true) (e : H a = some (.lst [VT l])) : Dv H (.ref a) (.list [.str (T l)])
theorem Dv.okv {H : Hp} {v : V} {d : PyData} (h : Dv H v d) : Okv H v := by
  cases h with
  | non => exact .non
  | bl b => exact .bl b
  | int i h => exact .int i
  | str l h b => exact .str l (by omega) b
  | lst l h b e => exact .lst e
theorem Dv.same {H H' : Hp} {v : V} {d : PyData} (h : Dv H v d) (s : ∀ a l, H a = some (.lst [VT l]) → H' a = some (.lst [VT l])) : Dv H' v d := by
  cases h with
  | non => exact .non
  | bl b => exact .bl b
  | int i h => exact .int i h
  | str l h b => exact .str l h b
  | lst l h b e => exact .lst l h b (s _ _ e)
theorem Dv.dp {K : PySem.W.Frag} {H : Hp} {v : V} {d : PyData} (h : Dv H v d) : Dp K H v d := by
  cases h with
  | non => exact .non
  | bl b => exact .bl b
  | int i h => exact .int i
  | str l h b => exact .str _
  | lst l h b e => exact .lst (SqL.of e) (.cons (.str _) .nil)
theorem small_log {i : Int} (h : i.natAbs ≤ 100000) : i.natAbs.log2 < 1920 := by
  rcases Nat.eq_zero_or_pos i.natAbs with h0 | h0
  · rw [h0]; decide
  · refine (Nat.log2_lt (by omega)).mpr (Nat.lt_of_le_of_lt h ?_)
    exact Nat.lt_of_lt_of_le (show 100000 < 2 ^ 20 by decide) (Nat.pow_le_pow_right (by decide) (by decide))
theorem Dv.showable {H : Hp} {v : V} {d : PyData} (h : Dv H v d) : d.showable = true := by
  cases h with
  | int i h => exact decide_eq_true (small_log h)
  | _ => rfl
theorem Dv.noDict {H : Hp} {v : V} {d : PyData} (h : Dv H v d) : d.hasDict = false := by
  cases h <;> rfl
theorem Dv.depth {H : Hp} {v : V} {d : PyData} (h : Dv H v d) : d.depth ≤ 1 := by
  cases h with
  | lst l h b e => show max 0 0 + 1 ≤ 1; omega
  | _ => exact Nat.zero_le _
theorem signs_small {l : List Nat} (h : Mi.isSigns l = true) : ∀ c ∈ (T l).cps.toList, c < 16 ^ 8 := by
  intro c hc
  have hc' : c ∈ l := by rw [T_tl] at hc; exact hc
  have := List.all_eq_true.mp h c hc'
  rw [Bool.or_eq_true] at this
  rcases this with h | h
  · rw [of_decide_eq_true h]; decide
  · rw [of_decide_eq_true h]; decide
theorem reprT_len {l : List Nat} (h : Mi.isSigns l = true) : (reprText (T l)).length ≤ 10 * l.length + 2 := by
  have := StrLaws.reprText_len (T l) (signs_small h)
  rw [T_len] at this
  exact this
theorem textFrom_up : ∀ (ts : List Str) (k m : Nat) (acc : Str), (∀ t ∈ ts, t.length ≤ m) → (textFrom k acc ts).length ≤ acc.length + (m + 2) * ts.length
  | [], k, m, acc, _ => by show acc.length ≤ _; omega
  | t :: r, k, m, acc, h => by
    have h1 := textFrom_up r (k + 1) m (acc ++ (if k > 0 then ", " else "" : String) ++ t) (fun x hx => h x (List.mem_cons_of_mem _ hx))
    have h2 := h t List.mem_cons_self
    have h3 : (acc ++ (if k > 0 then ", " else "" : String) ++ t).length ≤ acc.length + 2 + t.length := by
      rw [len_app, len_app]
      have : (Str.ofString (if k > 0 then ", " else "")).length ≤ 2 := by
        split
        · exact (by decide +kernel : (Str.ofString ", ").length ≤ 2)
        · exact (by decide +kernel : (Str.ofString "").length ≤ 2)
      omega
    show (textFrom (k + 1) (acc ++ (if k > 0 then ", " else "" : String) ++ t) r).length ≤ _
    rw [List.length_cons, Nat.mul_succ]
    omega
theorem listText_up {ts : List Str} {m : Nat} (h : ∀ t ∈ ts, t.length ≤ m) : (listText ts).length ≤ (m + 2) * ts.length + 2 := by
  unfold listText
  rw [len_app]
  have h1 := textFrom_up ts 0 m "[" h
  have h2 : (Str.ofString "[").length = 1 := by decide +kernel
  have h3 : (Str.ofString "]").length = 1 := by decide +kernel
  omega
end Ev
namespace Ev
open PySem L2 PyProof.Rows
def Bs (n : Nat) (ws : List (List Nat)) : Prop := ∀ l ∈ ws, l.length = n ∧ Mi.isSigns l = true
def spBent : Sp := fun vs H Q _ => ∃ h L cells at_ rest a ws n, vs = [.ref h, .ref a] ∧ Hpk H h L cells at_ rest ∧ at_ ≤ 999000 ∧ H a = some (.lst (ws.map VT)) ∧ h ≠ a ∧ Bs n ws ∧ n ≤ 9 ∧ 2 ≤ ws.length ∧ ws.length ≤ 300 ∧
  ∀ H' q at' rest' ws', But h H H' → Hpk H' h L cells at' rest' → at' ≤ at_ + 1 → H q = none → H' q = some (.lst (ws'.map VT)) → ws' ≠ [] → (∀ l ∈ ws', l ∈ ws) → ws'.length ≤ 600 → Q (.ref q) H'
theorem But.trans {h : Addr} {H1 H2 H3 : Hp} (a : But h H1 H2) (b : But h H2 H3) : But h H1 H3 := fun x o hx e => b x o hx (a x o hx e)
theorem But.of {h : Addr} {H1 H2 : Hp} (a : Same H1 H2) : But h H1 H2 := fun x o _ e => a x o e
theorem map_sub {ws : List (List Nat)} : ∀ {ys : List V}, (∀ y ∈ ys, y ∈ ws.map VT) → ∃ zs : List (List Nat), ys = zs.map VT ∧ ∀ l ∈ zs, l ∈ ws
  | [], _ => ⟨[], rfl, fun l h => by cases h⟩
  | y :: ys, h => by
    obtain ⟨zs, e, hz⟩ := map_sub fun x hx => h x (List.mem_cons_of_mem _ hx)
    obtain ⟨l, hl, rfl⟩ := List.mem_map.mp (h y List.mem_cons_self)
    refine ⟨l :: zs, by rw [e]; rfl, fun x hx => ?_⟩
    rcases List.mem_cons.mp hx with rfl | hx
    · exact hl
    · exact hz x hx
theorem cutV_mem {xs : List V} {lo hi : Option Int} {x : V} (h : x ∈ cutV xs lo hi) : x ∈ xs := by
  unfold cutV at h
  exact List.mem_of_mem_drop (List.mem_of_mem_take h)
theorem Hpk.same {H H' : Hp} {h L : Addr} {cells : List Int} {a r : Int} (p : Hpk H h L cells a r) (s : Same H H') : Hpk H' h L cells a r := ⟨p.1, s _ _ p.2.1, s _ _ p.2.2.1, p.2.2.2⟩
section
variable {P : Program} {w : World} {K : PySem.W.Frag} {mg : Str → Option Value} {base : Heap}
theorem ok_bent {f fP fD : Addr} {fd fdP fdD : FuncData} (F : Fun K "_law_bent_back" "_law_bent_back" sBent f fd) (B : Bl mg)
    (FP : Fun K "_law_pick" "_law_pick" sPick fP fdP) (bP : Binds K fdP ["_law_heap_here", "_law_many"] []) (gP : mg "_law_pick" = some (.ref fP))
    (FD : Fun K "_law_differ" "_law_differ" sDiffer fD fdD) (bD : Binds K fdD ["_law_one", "_law_other"] []) (gD : mg "_law_differ" = some (.ref fD)) : FnOk P w K mg base CX0 2 f fd ["_law_heap_here", "_law_states"] spBent := by
  have GP : FnOk P w K mg base CX0 1 fP fdP ["_law_heap_here", "_law_many"] spPick := ok_pick FP B
  have GD : FnOk P w K mg base CX0 1 fD fdD ["_law_one", "_law_other"] spDif := ok_differ FD B
  refine F.ok scBent (fun vs H Q E h => ?_) (fun cdv A outer s H vs Q E hr h => ?_)
  · obtain ⟨h, L, cells, at_, rest, a, ws, n, rfl, _⟩ := h
    rfl
  · obtain ⟨h, L, cells, at_, rest, a, ws, n, rfl, hp, hat, ha, hne, hbs, hn, hm2, hm3, k⟩ := h
    refine ⟨_, pss_cons (ps_setLc (i := 3) (own := [("_law_at", 2)]) (g := gName 2) (tt := tAnd (tTest (tOp rEq (tCall spDif [] E0 (tCons (tOp (rIxL K) (tVar 1) (tVar 2)) (tCons (tOp (rIxL K) (tVar 1) (tUn (rU fun i => .int (-i)) (tC (.int 1)))) tNil))) (tC (.int 1)))) (tTest (tOp (rI0 fun i j => .bl (decide (j < i))) (tVar 2) (tC (.int 0)))))
        rfl scBent.nd rfl rfl rfl (pi_range1 (by rfl) B.range (pa_cons (pe_op op_sub (pe_callB call_len_seq (by rfl) B.len PySem.boot_len (pa_cons (pv 1) pa_nil)) pe_int) pa_nil))
        (blkOk_by (own := [("_law_at", 2)]) (N := nBent) (sc := defScope sBent) (by decide +kernel)) (fun _ _ _ _ _ => pg_name (i := 2) scBent.nd rfl (Or.inl rfl))
        (fun _ _ _ _ _ => pts_one (pw_and (pt_cmpR op_eq (pe_call GD hr (by rfl) gD FD.kp bD .nil pass0 (pa_cons (pe_ix ix_list (pv 1) (pv 2) (fun _ _ => rfl)) (pa_cons (pe_ix ix_list (pv 1) (pe_un un_neg pe_int) (fun _ _ => rfl)) pa_nil))) pe_int (nomark _)) (pw_and1 (pt_cmpR op_gt (pv 2) pe_int (nomark _)))).pt)
        (fun _ _ _ _ _ => pv 2))
      (pss_cons (ps_set (i := 2) scBent.nd rfl (Or.inl rfl) (pe_ifExp (pt_cmpR (op_neD (room64 hr)) (pv 3) (pe_lst pa_nil) (nomark _))
          (pe_ix ix_list (pv 3) (pe_call GP hr (by rfl) gP FP.kp bP .nil pass0 (pa_cons (pv 0) (pa_cons (pe_callB call_len_seq (by rfl) B.len PySem.boot_len (pa_cons (pv 3) pa_nil)) pa_nil))) (fun _ _ => rfl))
          (pe_op op_sub (pe_callB call_len_seq (by rfl) B.len PySem.boot_len (pa_cons (pv 1) pa_nil)) pe_int)))
      (pss_one (ps_ret (pe_op op_cat (pe_slice sl_list (pv 1) po_none (po_some (pe_op op_add (pv 2) pe_int))) (pe_back (pv 1) po_none (po_some (pv 2))))))), ?_⟩
    have hml : ((ws.map VT).length : Nat) = ws.length := List.length_map _
    obtain ⟨wl, hwl⟩ : ∃ x, ws[ws.length - 1]? = some x := ⟨_, List.getElem?_eq_getElem (by omega)⟩
    have hlast : atI (ws.map VT) (-1) = some (VT wl) := by
      rw [atI_end (fun e => absurd (show ws.length = 0 by rw [← hml, e]; rfl) (by omega))]
      unfold lastV
      rw [hml]
      congr 1
      refine getD_of ?_
      rw [List.getElem?_map, hwl]
      rfl
    obtain ⟨hwl1, hwl2⟩ := hbs wl (List.mem_of_getElem? hwl)
    refine ⟨_, rfl, a, _, rfl, .inl (SqL.of ha), _, _, rfl, rfl, _, rfl, by rw [hml]; omega, by rw [hml]; omega, fun D hD => ?_⟩
    have nD := hD
    refine lc_range (lo := 0) (n := (((ws.map VT).length : Nat) - 2 : Int).toNat) (fun i H2 => Same H H2 ∧ ∃ is : List Int, H2 D = some (.lst (is.map V.int)) ∧ is.length ≤ i ∧ ∀ z ∈ is, 0 ≤ z ∧ z < ws.length)
      ⟨same_upd (Same.refl H) hD, [], upd_same, Nat.le_refl _, fun z hz => by cases hz⟩ ?_ ?_
    · rintro i H2 hi ⟨s2, is, hd, hil, hiz⟩
      rw [hml] at hi
      obtain ⟨wi, hwi⟩ : ∃ x, ws[i]? = some x := ⟨_, List.getElem?_eq_getElem (show i < ws.length by omega)⟩
      obtain ⟨hwi1, hwi2⟩ := hbs wi (List.mem_of_getElem? hwi)
      refine ⟨rfl, _, rfl, _, rfl, a, _, _, VT wi, rfl, rfl, SqL.of (s2 _ _ ha), ?_, _, rfl, 1, rfl, a, _, _, VT wl, rfl, rfl, SqL.of (s2 _ _ ha), hlast, wi, wl, rfl, by omega, by omega, by omega, fun H3 s3 => ⟨rfl, _, rfl, ?_⟩⟩
      · rw [Int.zero_add]
        refine atI_nat ?_
        rw [List.getElem?_map, hwi]
        rfl
      have s4 := same_tr s2 s3
      have hd4 := s3 _ _ hd
      refine iteB (fun e1 => ?_) (fun e1 => ifF ⟨s4, is, hd4, by omega, hiz⟩)
      refine ⟨_, rfl, _, _, rfl, rfl, _, rfl, iteB (fun e2 => ?_) (fun e2 => ⟨s4, is, hd4, by omega, hiz⟩)⟩
      refine ⟨_, rfl, _, hd4, ?_, same_updN s4 nD, is ++ [0 + (i : Int)], ?_, ?_, ?_⟩
      · rw [List.length_map]
        exact small1000 (by omega)
      · rw [upd_same]
        simp
      · rw [List.length_append, List.length_singleton]; omega
      · intro z hz
        rcases List.mem_append.mp hz with hz | hz
        · exact hiz z hz
        · rw [List.mem_singleton.mp hz]; omega
    · rintro H2 ⟨s2, is, hd, hil, hiz⟩
      rw [hml] at hil
      have tail : ∀ (z : Int) (H5 : Hp) (at' rest' : Int), 0 ≤ z → z < ws.length → But h H H5 → Hpk H5 h L cells at' rest' → at' ≤ at_ + 1 → (∀ b, H5 b = none → H b = none) → ∀ p1, H5 p1 = none → ∀ p2, upd H5 p1 (.lst (cutV (ws.map VT) none (some (z + 1)))) p2 = none → ∀ p3, upd (upd H5 p1 (.lst (cutV (ws.map VT) none (some (z + 1))))) p2 (.lst (backV none (some z) (ws.map VT))) p3 = none →
          Q (.ref p3) (upd (upd (upd H5 p1 (.lst (cutV (ws.map VT) none (some (z + 1))))) p2 (.lst (backV none (some z) (ws.map VT)))) p3 (.lst (cutV (ws.map VT) none (some (z + 1)) ++ backV none (some z) (ws.map VT)))) := by
        intro z H5 at' rest' z1 z2 b5 p5 a5 f5 p1 n1 p2 n2 p3 n3
        have t1 := same_upd (o := .lst (cutV (ws.map VT) none (some (z + 1)))) (Same.refl H5) n1
        have t2 := same_upd (o := .lst (backV none (some z) (ws.map VT))) t1 n2
        have t3 := same_upd (o := .lst (cutV (ws.map VT) none (some (z + 1)) ++ backV none (some z) (ws.map VT))) t2 n3
        have hz1 : z + 1 = ((z.toNat + 1 : Nat) : Int) := by omega
        have hc : cutV (ws.map VT) none (some (z + 1)) = (ws.map VT).take (z.toNat + 1) := by rw [hz1, cutV_to]
        obtain ⟨zs, ezs, hzs⟩ := map_sub (ws := ws) (ys := cutV (ws.map VT) none (some (z + 1)) ++ backV none (some z) (ws.map VT)) (fun y hy => by
          rcases List.mem_append.mp hy with hy | hy
          · exact cutV_mem hy
          · exact backV_mem hy)
        refine k _ p3 at' rest' zs (b5.trans (But.of t3)) (p5.same t3) a5 (f5 _ (t2.free n3)) (by rw [upd_same, ezs]) ?_ hzs ?_
        · intro e
          rw [e] at ezs
          have h0 := congrArg List.length ezs
          rw [hc, List.length_append, List.length_take, hml] at h0
          have h1 : min (z.toNat + 1) ws.length + (backV none (some z) (ws.map VT)).length = 0 := h0
          omega
        · have := congrArg List.length ezs
          rw [List.length_append, List.length_map] at this
          have h1 := cutV_length (ws.map VT) none (some (z + 1))
          have h2 := backV_len none (some z) (ws.map VT)
          rw [hml] at h1 h2
          omega
      refine ⟨_, rfl, (by show 0 ≤ sizeLine; decide), fun q2 nq2 => ?_⟩
      have ne2 : D ≠ q2 := ne_of_none hd nq2
      have s6 := same_upd (o := .lst []) s2 nq2
      have hd6 : upd H2 q2 (.lst []) D = some (.lst (is.map V.int)) := by rw [upd_ne ne2]; exact hd
      refine ⟨.list (is.map PyData.int), .list [], .lst (SqL.of hd6) (dp_ints is), .lst (SqL.of upd_same) .nil, shaped_ints is, by decide +kernel, _, rfl, ?_⟩
      show if (!PyData.eqv (.list (is.map PyData.int)) (.list [])) = true then _ else _
      rw [eqv_nilI]
      cases hnil : decide (is = []) with
      | false =>
        have hne2 : is ≠ [] := of_decide_eq_false hnil
        have hlp : 0 < is.length := List.length_pos_iff.mpr hne2
        have hil2 : ((is.map V.int).length : Nat) = is.length := List.length_map _
        refine ifT ⟨_, rfl, _, rfl, _, rfl, D, _, rfl, .inl (SqL.of hd6), h, L, cells, at_, rest, _, rfl, hp.same s6, by omega, by rw [hil2]; omega, by rw [hil2]; omega, fun H7 r at' rest' b7 p7 a7 r1 r2 => ?_⟩
        rw [hil2] at r2
        obtain ⟨z, hz⟩ : ∃ z, is[r.toNat]? = some z := ⟨_, List.getElem?_eq_getElem (show r.toNat < is.length by omega)⟩
        obtain ⟨z1, z2⟩ := hiz z (List.mem_of_getElem? hz)
        have hDh : D ≠ h := fun e => by rw [e, (hp.2.1)] at nD; cases nD
        have hd7 := b7 _ _ hDh hd6
        have b8 : But h H H7 := (But.of s6).trans b7
        refine ⟨D, _, r, .int z, rfl, rfl, SqL.of hd7, ?_, ?_⟩
        · rw [show r = ((r.toNat : Nat) : Int) by omega]
          refine atI_nat ?_
          rw [List.getElem?_map, hz]
          rfl
        have f8 : ∀ b, H7 b = none → H b = none := fun b hb => by
          cases e : H b with
          | none => rfl
          | some o =>
            by_cases hbh : b = h
            · subst hbh
              rw [p7.2.1] at hb
              cases hb
            · rw [b8 _ _ hbh e] at hb
              cases hb
        have ha7 := b8 _ _ (Ne.symm hne) ha
        refine ⟨_, rfl, _, rfl, _, _, rfl, rfl, z + 1, rfl, a, _, rfl, SqL.of ha7, fun p1 n1 => ?_⟩
        have ha8 := same_upd (o := .lst (cutV (ws.map VT) none (some (z + 1)))) (Same.refl H7) n1 _ _ ha7
        refine ⟨_, rfl, _, rfl, z, rfl, a, _, rfl, SqL.of ha8, fun p2 n2 => ?_⟩
        have hne12 : p1 ≠ p2 := ne_of_none (upd_same (H := H7) (a := p1) (o := .lst (cutV (ws.map VT) none (some (z + 1))))) n2
        refine ⟨p1, p2, _, _, rfl, rfl, by rw [upd_ne hne12]; exact upd_same, upd_same, ?_, fun p3 n3 => tail z H7 at' rest' z1 z2 b8 p7 (by omega) f8 p1 n1 p2 n2 p3 n3⟩
        have h1 := cutV_length (ws.map VT) none (some (z + 1))
        have h2 := backV_len none (some z) (ws.map VT)
        rw [hml] at h1 h2
        exact small_line (by omega)
      | true =>
        refine ifF ⟨_, rfl, a, _, rfl, .inl (SqL.of (s6 _ _ ha)), _, _, rfl, rfl, ?_⟩
        have ha7 := s6 _ _ ha
        have z1 : 0 ≤ (((ws.map VT).length : Nat) : Int) - 2 := by rw [hml]; omega
        have z2 : (((ws.map VT).length : Nat) : Int) - 2 < ws.length := by rw [hml]; omega
        refine ⟨_, rfl, _, rfl, _, _, rfl, rfl, _, rfl, a, _, rfl, SqL.of ha7, fun p1 n1 => ?_⟩
        have ha8 := same_upd (o := .lst (cutV (ws.map VT) none (some ((((ws.map VT).length : Nat) : Int) - 2 + 1)))) (Same.refl _) n1 _ _ ha7
        refine ⟨_, rfl, _, rfl, _, rfl, a, _, rfl, SqL.of ha8, fun p2 n2 => ?_⟩
        have hne12 : p1 ≠ p2 := ne_of_none (upd_same (a := p1) (o := .lst (cutV (ws.map VT) none (some ((((ws.map VT).length : Nat) : Int) - 2 + 1))))) n2
        refine ⟨p1, p2, _, _, rfl, rfl, by rw [upd_ne hne12]; exact upd_same, upd_same, ?_, fun p3 n3 => tail _ _ at_ rest z1 z2 (But.of s6) (hp.same s6) (by omega) (fun b hb => s6.free hb) p1 n1 p2 n2 p3 n3⟩
        have h1 := cutV_length (ws.map VT) none (some ((((ws.map VT).length : Nat) : Int) - 2 + 1))
        have h2 := backV_len none (some ((((ws.map VT).length : Nat) : Int) - 2)) (ws.map VT)
        rw [hml] at h1 h2
        exact small_line (by rw [hml] at *; omega)
end
end Ev
namespace Mi
theorem switched_len {z : W} {l : Nat} (h : l < z.length) : (switched z l).length = z.length := by
  unfold switched
  split <;> simp <;> omega
theorem switched_signs {z : W} {l : Nat} (h : isSigns z = true) : isSigns (switched z l) = true := by
  unfold switched
  have h1 : isSigns (z.drop (l + 1)) = true := List.all_eq_true.mpr fun x hx => List.all_eq_true.mp h x (List.mem_of_mem_drop hx)
  split
  · rw [signs_app, signs_app, signs_take l h, h1]
    rfl
  · rw [signs_app, signs_app, signs_take l h, h1]
    rfl
end Mi
namespace Ev
open PySem L2 PyProof.Rows
def spSpoilt : Sp := fun vs H Q _ => ∃ h L cells at_ rest a ws n, vs = [.ref h, .ref a] ∧ Hpk H h L cells at_ rest ∧ at_ ≤ 999000 ∧ H a = some (.lst (ws.map VT)) ∧ h ≠ a ∧ Bs n ws ∧ 3 ≤ n ∧ n ≤ 9 ∧ 6 ≤ ws.length ∧ ws.length ≤ 300 ∧
  ∀ H' q at' rest' xs', But h H H' → Hpk H' h L cells at' rest' → at' ≤ at_ + 8 → H q = none → H' q = some (.lst xs') → xs' ≠ [] → xs'.length ≤ 700 → (∀ x ∈ xs', ∃ d, Dv H' x d) → (∃ l, VT l ∈ xs' ∧ l.length = n) → Q (.ref q) H'
section
variable {P : Program} {w : World} {K : PySem.W.Frag} {mg : Str → Option Value} {base : Heap}
theorem ok_spoilt {f fP fS : Addr} {fd fdP fdS : FuncData} (F : Fun K "_law_spoilt" "_law_spoilt" sSpoilt f fd) (B : Bl mg)
    (FP : Fun K "_law_pick" "_law_pick" sPick fP fdP) (bP : Binds K fdP ["_law_heap_here", "_law_many"] []) (gP : mg "_law_pick" = some (.ref fP))
    (FS : Fun K "_law_switched" "_law_switched" sSwitched fS fdS) (bS : Binds K fdS ["_law_state_here", "_law_lamp"] []) (gS : mg "_law_switched" = some (.ref fS)) : FnOk P w K mg base CX0 2 f fd ["_law_heap_here", "_law_states"] spSpoilt := by
  have GP : FnOk P w K mg base CX0 1 fP fdP ["_law_heap_here", "_law_many"] spPick := ok_pick FP B
  have GS : FnOk P w K mg base CX0 1 fS fdS ["_law_state_here", "_law_lamp"] spSw := ok_switched FS
  refine F.ok scSpoilt (fun vs H Q E h => ?_) (fun cdv A outer s H vs Q E hr h => ?_)
  · obtain ⟨h, L, cells, at_, rest, a, ws, n, rfl, _⟩ := h
    rfl
  · obtain ⟨h, L, cells, at_, rest, a, ws, n, rfl, hp, hat, ha, hne, hbs, hn3, hn, hm2, hm3, k⟩ := h
    refine ⟨_, pss_cons (ps_par (i := 2) (j := 3) rfl scSpoilt.nd rfl rfl (by decide) rfl rfl (pa_cons (pe_call GP hr (by rfl) gP FP.kp bP .nil pass0 (pa_cons (pv 0) (pa_cons pe_int pa_nil))) (pa_cons (pe_call GP hr (by rfl) gP FP.kp bP .nil pass0 (pa_cons (pv 0) (pa_cons (pe_callB call_len_seq (by rfl) B.len PySem.boot_len (pa_cons (pv 1) pa_nil)) pa_nil))) pa_nil)) rfl)
      (pss_cons (ps_par (i := 4) (j := 5) rfl scSpoilt.nd rfl rfl (by decide) rfl rfl (pa_cons (pe_callB call_len (by rfl) B.len PySem.boot_len (pa_cons (pe_ix ix_list (pv 1) pe_int (fun _ _ => rfl)) pa_nil)) (pa_cons (pe_callTy call_list_of (by rfl) B.list (by decide +kernel) (pa_cons (pv 1) pa_nil)) pa_nil)) rfl)
      (pss_cons (ps_if (pt_cmpR op_eq (pv 2) pe_int (nomark _))
        (pss_cons (ps_set (i := 6) scSpoilt.nd rfl (Or.inl rfl) (pe_lst (pa_cons pe_non (pa_cons pe_int (pa_cons pe_str (pa_cons (pe_op op_mulT pe_str (pv 4)) (pa_cons (pe_op op_mulT pe_str (pv 4)) (pa_cons (pe_op op_add_str (pe_ix ix_list (pv 1) (pv 3) (fun _ _ => rfl)) pe_str) (pa_cons (pe_op op_add_str (pe_ix ix_list (pv 1) (pv 3) (fun _ _ => rfl)) pe_str)
            (pa_cons (pe_slice sl_str (pe_ix ix_list (pv 1) (pv 3) (fun _ _ => rfl)) (po_some pe_int) po_none) (pa_cons (pe_lst (pa_cons (pe_ix ix_list (pv 1) (pv 3) (fun _ _ => rfl)) pa_nil)) (pa_cons pe_bl pa_nil))))))))))))
        (pss_one (ps_asg (g := gSub (tVar 5) (tVar 3) rSetL) (pe_ix ix_list (pv 6) (pe_call GP hr (by rfl) gP FP.kp bP .nil pass0 (pa_cons (pv 0) (pa_cons pe_int pa_nil))) (fun _ _ => rfl)) (pg_sub (pv 5) (pv 3) set_list)))) pss_nil)
      (pss_cons (ps_if (pt_cmpR op_eq (pv 2) pe_int (nomark _))
        (pss_one (ps_asg (g := gSub (tVar 5) (tVar 3) rSetL) (pe_call GS hr (by rfl) gS FS.kp bS .nil pass0 (pa_cons (pe_call GS hr (by rfl) gS FS.kp bS .nil pass0 (pa_cons (pe_ix ix_list (pv 1) (pv 3) (fun _ _ => rfl)) (pa_cons (pe_call GP hr (by rfl) gP FP.kp bP .nil pass0 (pa_cons (pv 0) (pa_cons (pv 4) pa_nil))) pa_nil)))
          (pa_cons (pe_call GP hr (by rfl) gP FP.kp bP .nil pass0 (pa_cons (pv 0) (pa_cons (pv 4) pa_nil))) pa_nil))) (pg_sub (pv 5) (pv 3) set_list))) pss_nil)
      (pss_cons (ps_if (pt_cmpR op_eq (pv 2) pe_int (nomark _))
        (pss_one (ps_set (i := 5) scSpoilt.nd rfl (Or.inl rfl) (pe_op op_cat (pe_op op_cat (pe_slice sl_list (pv 5) po_none (po_some (pe_op op_add (pv 3) pe_int))) (pe_lst (pa_cons (pe_ix ix_list (pv 1) (pe_callB (call_max2 rfl) (by rfl) B.max PyProof.Rows.boot_max (pa_cons pe_int (pa_cons (pe_op op_sub (pv 3) pe_int) pa_nil))) (fun _ _ => rfl)) pa_nil))) (pe_slice sl_list (pv 5) (po_some (pe_op op_add (pv 3) pe_int)) po_none)))) pss_nil)
      (pss_cons (ps_if (pt_cmpR op_eq (pv 2) pe_int (nomark _))
        (pss_one (ps_set (i := 5) scSpoilt.nd rfl (Or.inl rfl) (pe_op op_cat (pv 5) (pe_lst (pa_cons (pe_ix ix_list (pv 1) (pv 3) (fun _ _ => rfl)) pa_nil))))) pss_nil)
      (pss_cons (ps_if (pw_and (pt_cmpR op_eq (pv 2) pe_int (nomark _)) (pw_and1 (pt_cmpR op_gt (pe_callB call_len_seq (by rfl) B.len PySem.boot_len (pa_cons (pv 1) pa_nil)) pe_int (nomark _)))).pt
        (pss_one (ps_set (i := 5) scSpoilt.nd rfl (Or.inl rfl) (pe_op op_cat (pe_slice sl_list (pv 5) po_none (po_some (pv 3))) (pe_slice sl_list (pv 5) (po_some (pe_op op_add (pv 3) pe_int)) po_none)))) pss_nil)
      (pss_one (ps_ret (pv 5))))))))), ?_⟩
    have hml : ((ws.map VT).length : Nat) = ws.length := List.length_map _
    refine ⟨_, rfl, h, L, cells, at_, rest, 7, rfl, hp, by omega, by omega, by omega, fun H1 way a1 r1 b1 p1 l1 w1 w2 => ?_⟩
    have ha1 := b1 _ _ (Ne.symm hne) ha
    refine ⟨_, rfl, _, rfl, a, _, rfl, .inl (SqL.of ha1), h, L, cells, a1, r1, _, rfl, p1, by omega, by rw [hml]; omega, by rw [hml]; omega, fun H2 at2 a2 r2 b2 p2 l2 v1 v2 => ⟨_, _, rfl, ?_⟩⟩
    rw [hml] at v2
    have b3 := b1.trans b2
    have ha2 := b3 _ _ (Ne.symm hne) ha
    obtain ⟨w0, hw0⟩ : ∃ x, ws[0]? = some x := ⟨_, List.getElem?_eq_getElem (by omega)⟩
    obtain ⟨wr, hwr⟩ : ∃ x, ws[at2.toNat]? = some x := ⟨_, List.getElem?_eq_getElem (by omega)⟩
    obtain ⟨hw01, hw02⟩ := hbs w0 (List.mem_of_getElem? hw0)
    obtain ⟨hwr1, hwr2⟩ := hbs wr (List.mem_of_getElem? hwr)
    have h0at : atI (ws.map VT) 0 = some (VT w0) := atI_nat (j := 0) (by rw [List.getElem?_map, hw0]; rfl)
    have hrat : atI (ws.map VT) at2 = some (VT wr) := by
      rw [show at2 = ((at2.toNat : Nat) : Int) by omega]
      exact atI_nat (by rw [List.getElem?_map, hwr]; rfl)
    refine ⟨_, rfl, a, _, 0, VT w0, rfl, rfl, SqL.of ha2, h0at, _, n, rfl, ⟨sl1000 (by omega), by rw [T_len, hw01]⟩, _, rfl, a, _, rfl, .inl (SqL.of ha2), fun q nq => ⟨_, _, rfl, ?_⟩⟩
    have f2 : ∀ b, H2 b = none → H b = none := fun b hb => by
      cases e : H b with
      | none => rfl
      | some o =>
        by_cases hbh : b = h
        · subst hbh
          rw [p2.2.1] at hb
          cases hb
        · rw [b3 _ _ hbh e] at hb
          cases hb
    have nqH := f2 q nq
    have s4 := same_upd (o := .lst (ws.map VT)) (Same.refl H2) nq
    have hq4 : upd H2 q (.lst (ws.map VT)) q = some (.lst (ws.map VT)) := upd_same
    have b4 : But h H (upd H2 q (.lst (ws.map VT))) := b3.trans (But.of s4)
    have p4 := p2.same s4
    have ha4 := b4 _ _ (Ne.symm hne) ha
    have hws : ∀ (H' : Hp), ∀ x ∈ ws.map VT, ∃ d, Dv H' x d := fun H' x hx => by
      obtain ⟨l, hl, rfl⟩ := List.mem_map.mp hx
      obtain ⟨e1, e2⟩ := hbs l hl
      exact ⟨_, .str l (by omega) e2⟩
    have hwn : ∃ l, VT l ∈ ws.map VT ∧ l.length = n := ⟨w0, List.mem_map.mpr ⟨w0, List.mem_of_getElem? hw0, rfl⟩, hw01⟩
    have hqh : q ≠ h := fun e => by rw [e, p2.2.1] at nq; cases nq
    have hwne : ws.map VT ≠ [] := fun e => absurd (show ws.length = 0 by rw [← hml, e]; rfl) (by omega)
    have hix : ixN (ws.map VT).length at2 = some at2.toNat := by
      unfold ixN
      rw [if_pos v1, if_pos (by rw [hml]; omega)]
    have hset : ∀ x, ∃ l, VT l ∈ (ws.map VT).set at2.toNat x ∧ l.length = n := fun x => by
      have key : ∀ j, j < ws.length → at2.toNat ≠ j → ∃ l, VT l ∈ (ws.map VT).set at2.toNat x ∧ l.length = n := fun j hj hne => by
        obtain ⟨l, hl⟩ : ∃ l, ws[j]? = some l := ⟨_, List.getElem?_eq_getElem hj⟩
        refine ⟨l, List.mem_of_getElem? (i := j) ?_, (hbs l (List.mem_of_getElem? hl)).1⟩
        rw [List.getElem?_set_ne hne, List.getElem?_map, hl]
        rfl
      by_cases h0 : at2.toNat = 0
      · exact key 1 (by omega) (by omega)
      · exact key 0 (by omega) h0
    have hsetne : ∀ x, (ws.map VT).set at2.toNat x ≠ [] := fun x e => absurd (show ws.length = 0 by rw [← hml, ← List.length_set (i := at2.toNat) (a := x), e]; rfl) (by omega)
    have hseto : ∀ (H' : Hp) x, (∃ d, Dv H' x d) → ∀ y ∈ (ws.map VT).set at2.toNat x, ∃ d, Dv H' y d := fun H' x hx y hy => by
      rcases List.mem_or_eq_of_mem_set hy with hy | rfl
      · exact hws H' y hy
      · exact hx
    have setbut : ∀ (H' : Hp) (o : HO), But q H' (upd H' q o) := fun H' o b u hb e => by
      rw [upd_ne hb]
      exact e
    have hqb : ∀ {H' H'' : Hp}, But h H H' → But q H' H'' → But h H H'' := fun b1 b2 b u hb e => by
      refine b2 b u ?_ (b1 b u hb e)
      intro hbq
      rw [hbq, nqH] at e
      cases e
    have hLq : ∀ {H' : Hp} {a r : Int} (o : HO), Hpk H' h L cells a r → L ≠ q → Hpk (upd H' q o) h L cells a r := fun o p hl => ⟨p.1, by rw [upd_ne (Ne.symm hqh)]; exact p.2.1, by rw [upd_ne hl]; exact p.2.2.1, p.2.2.2⟩
    have hLq0 : L ≠ q := fun e => by
      have := p2.2.2.1
      rw [e, nq] at this
      cases this
    have l1' : (Str.ofString "0").length = 1 := by decide +kernel
    have l2' : (Str.ofString "01").length = 2 := by decide +kernel
    have hT01 : Str.ofString "01" = T [48, 49] := by decide +kernel
    have hway : way = 0 ∨ way = 1 ∨ way = 2 ∨ way = 3 ∨ way = 4 ∨ way = 5 ∨ way = 6 := by omega
    rcases hway with rfl | rfl | rfl | rfl | rfl | rfl | rfl
    · refine ⟨_, rfl, rfl, _, rfl, iteB (fun e => absurd e (by decide)) (fun _ => ?_)⟩
      refine ⟨_, rfl, rfl, _, rfl, iteB (fun e => absurd e (by decide)) (fun _ => ?_)⟩
      refine ⟨_, rfl, rfl, _, rfl, iteB (fun e => absurd e (by decide)) (fun _ => ?_)⟩
      refine ⟨_, rfl, rfl, _, rfl, iteB (fun e => absurd e (by decide)) (fun _ => ?_)⟩
      refine ⟨_, rfl, rfl, _, rfl, iteB (fun e => absurd e (by decide)) (fun _ => ifF ?_)⟩
      refine ⟨_, rfl, ?_⟩
      exact k _ q a2 r2 _ b4 p4 (by omega) nqH hq4 hwne (by omega) (hws _) hwn
    · refine ⟨_, rfl, rfl, _, rfl, iteB (fun _ => ?_) (fun e => absurd e (by decide))⟩
      refine ⟨_, rfl, 49, (n : Nat), (by rw [s_one]; rfl), rfl, by omega, by omega, _, rfl, 48, (n : Nat), (by rw [s_zero]; rfl), rfl, by omega, by omega, _, rfl, _, rfl, a, _, at2, VT wr, rfl, rfl, SqL.of ha4, hrat, _, _, rfl, rfl, (by rw [l1', T_len]; exact small_line (by omega)),
        _, rfl, _, rfl, a, _, at2, VT wr, rfl, rfl, SqL.of ha4, hrat, _, _, rfl, rfl, (by rw [l2', T_len]; exact small_line (by omega)), _, rfl, _, rfl, a, _, at2, VT wr, rfl, rfl, SqL.of ha4, hrat, 1, rfl, T wr, rfl, sl1000 (by omega), _, rfl, _, rfl, a, _, at2, VT wr, rfl, rfl, SqL.of ha4, hrat, (by show 1 ≤ sizeLine; decide), fun q1 nq1 => ?_⟩
      refine ⟨(by show 10 ≤ sizeLine; decide), fun q2 nq2 => ?_⟩
      have s5 := same_upd (o := .lst [VT wr]) (Same.refl _) nq1
      have hq1 : upd (upd H2 q (.lst (ws.map VT))) q1 (.lst [VT wr]) q1 = some (.lst [VT wr]) := upd_same
      generalize upd (upd H2 q (.lst (ws.map VT))) q1 (.lst [VT wr]) = H5 at *
      obtain ⟨oth, hoth⟩ : ∃ o : List V, o = [.non, .int 5, .str (Str.ofString ""), VT (List.replicate ((n : Nat) : Int).toNat 49), VT (List.replicate ((n : Nat) : Int).toNat 48), .str (T wr ++ Str.ofString "0"), .str (T wr ++ Str.ofString "01"), .str (cutS (T wr) (some 1) none), .ref q1, .bl true] := ⟨_, rfl⟩
      have hol : oth.length = 10 := by rw [hoth]; rfl
      have hom : ∀ x ∈ oth, ∀ H' : Hp, H' q1 = some (.lst [VT wr]) → ∃ d, Dv H' x d := by
        intro x hx H' hq
        rw [hoth] at hx
        simp only [List.mem_cons, List.not_mem_nil, or_false] at hx
        rcases hx with rfl | rfl | rfl | rfl | rfl | rfl | rfl | rfl | rfl | rfl
        · exact ⟨_, .non⟩
        · exact ⟨_, .int 5 (by decide)⟩
        · exact ⟨_, by rw [s_empty]; exact .str [] (by decide) rfl⟩
        · exact ⟨_, .str _ (by rw [List.length_replicate]; omega) (Mi.signs_rep _ (.inr rfl))⟩
        · exact ⟨_, .str _ (by rw [List.length_replicate]; omega) (Mi.signs_rep _ (.inl rfl))⟩
        · exact ⟨_, by rw [s_zero, T_app]; exact .str _ (by rw [List.length_append, List.length_singleton]; omega) (by rw [Mi.signs_app, hwr2]; rfl)⟩
        · exact ⟨_, by rw [hT01, T_app]; exact .str _ (by rw [List.length_append, hwr1]; show n + 2 ≤ 20; omega) (by rw [Mi.signs_app, hwr2]; rfl)⟩
        · exact ⟨_, by rw [T_drop wr (k := 1) (n := 1) rfl]; exact .str _ (by rw [List.length_drop]; omega) (List.all_eq_true.mpr fun x hx => List.all_eq_true.mp hwr2 x (List.mem_of_mem_drop hx))⟩
        · exact ⟨_, .lst wr (by omega) hwr2 hq⟩
        · exact ⟨_, .bl true⟩
      subst hoth
      have s6 := same_upd (o := .lst [.non, .int 5, .str (Str.ofString ""), VT (List.replicate ((n : Nat) : Int).toNat 49), VT (List.replicate ((n : Nat) : Int).toNat 48), .str (T wr ++ Str.ofString "0"), .str (T wr ++ Str.ofString "01"), .str (cutS (T wr) (some 1) none), .ref q1, .bl true]) s5 nq2
      have ne12 : q1 ≠ q2 := ne_of_none hq1 nq2
      have hq1a := same_upd (o := .lst [.non, .int 5, .str (Str.ofString ""), VT (List.replicate ((n : Nat) : Int).toNat 49), VT (List.replicate ((n : Nat) : Int).toNat 48), .str (T wr ++ Str.ofString "0"), .str (T wr ++ Str.ofString "01"), .str (cutS (T wr) (some 1) none), .ref q1, .bl true]) (Same.refl _) nq2 _ _ hq1
      refine ⟨_, rfl, _, rfl, h, L, cells, a2, r2, 10, rfl, p4.same s6, by omega, by omega, by omega, fun H7 r a7 r7 b7 p7 l7 t1 t2 => ?_⟩
      have hh4 := p4.2.1
      have hq1h : q1 ≠ h := fun e => by
        rw [e, s5 _ _ hh4] at hq1
        injection hq1 with hq1
        injection hq1 with hq1
        have := congrArg List.length hq1
        simp at this
      have hq2h : q2 ≠ h := fun e => by
        rw [e, s5 _ _ hh4] at nq2
        cases nq2
      have hq1b := b7 _ _ hq1h hq1a
      have hq2b := b7 _ _ hq2h upd_same
      have hq7 := b7 _ _ hqh (s6 _ _ hq4)
      obtain ⟨x, hx⟩ : ∃ x, [V.non, .int 5, .str (Str.ofString ""), VT (List.replicate ((n : Nat) : Int).toNat 49), VT (List.replicate ((n : Nat) : Int).toNat 48), .str (T wr ++ Str.ofString "0"), .str (T wr ++ Str.ofString "01"), .str (cutS (T wr) (some 1) none), .ref q1, .bl true][r.toNat]? = some x :=
        ⟨_, List.getElem?_eq_getElem (by rw [hol]; omega)⟩
      refine ⟨q2, _, r, x, rfl, rfl, SqL.of hq2b, (by rw [show r = ((r.toNat : Nat) : Int) by omega]; exact atI_nat hx), _, rfl, _, rfl, q, _, at2, at2.toNat, rfl, rfl, hq7, hix, ?_⟩
      have hq1q : q1 ≠ q := fun e => by
        have e2 := s5 _ _ hq4
        rw [← e, hq1] at e2
        injection e2 with e2
        injection e2 with e2
        have := congrArg List.length e2
        rw [hml] at this
        simp at this
        omega
      refine ⟨_, rfl, rfl, _, rfl, iteB (fun e => absurd e (by decide)) (fun _ => ?_)⟩
      refine ⟨_, rfl, rfl, _, rfl, iteB (fun e => absurd e (by decide)) (fun _ => ?_)⟩
      refine ⟨_, rfl, rfl, _, rfl, iteB (fun e => absurd e (by decide)) (fun _ => ?_)⟩
      refine ⟨_, rfl, rfl, _, rfl, iteB (fun e => absurd e (by decide)) (fun _ => ifF ?_)⟩
      refine ⟨_, rfl, ?_⟩
      refine k _ q a7 r7 _ (hqb ((b4.trans (But.of s6)).trans b7) (setbut _ _)) (hLq _ p7 hLq0) (by omega) nqH upd_same (hsetne x) (by rw [List.length_set]; omega) (hseto _ x (hom x (List.mem_of_getElem? hx) _ (by rw [upd_ne hq1q]; exact hq1b))) (hset x)
    · refine ⟨_, rfl, rfl, _, rfl, iteB (fun e => absurd e (by decide)) (fun _ => ?_)⟩
      refine ⟨_, rfl, rfl, _, rfl, iteB (fun _ => ?_) (fun e => absurd e (by decide))⟩
      refine ⟨_, rfl, _, rfl, a, _, at2, VT wr, rfl, rfl, SqL.of ha4, hrat, _, rfl, _, rfl, h, L, cells, a2, r2, (n : Nat), rfl, p4, by omega, by omega, by omega, fun H5 x1 a5 r5 b5 p5 l5 t1 t2 => ?_⟩
      refine ⟨wr, x1.toNat, by rw [Int.toNat_of_nonneg t1]; rfl, by omega, by omega, fun H6 s6 => ?_⟩
      refine ⟨_, rfl, _, rfl, h, L, cells, a5, r5, (n : Nat), rfl, p5.same s6, by omega, by omega, by omega, fun H7 x2 a7 r7 b7 p7 l7 u1 u2 => ?_⟩
      have hsl := Mi.switched_len (z := wr) (l := x1.toNat) (by omega)
      have hss := Mi.switched_signs (z := wr) (l := x1.toNat) hwr2
      refine ⟨Mi.switched wr x1.toNat, x2.toNat, by rw [Int.toNat_of_nonneg u1]; rfl, by omega, by omega, fun H8 s8 => ?_⟩
      have hsl2 := Mi.switched_len (z := Mi.switched wr x1.toNat) (l := x2.toNat) (by omega)
      have hss2 := Mi.switched_signs (z := Mi.switched wr x1.toNat) (l := x2.toNat) hss
      have b8 : But h (upd H2 q (.lst (ws.map VT))) H8 := ((b5.trans (But.of s6)).trans b7).trans (But.of s8)
      have hq8 := b8 _ _ hqh hq4
      refine ⟨_, rfl, _, rfl, q, _, at2, at2.toNat, rfl, rfl, hq8, hix, ?_⟩
      refine ⟨_, rfl, rfl, _, rfl, iteB (fun e => absurd e (by decide)) (fun _ => ?_)⟩
      refine ⟨_, rfl, rfl, _, rfl, iteB (fun e => absurd e (by decide)) (fun _ => ?_)⟩
      refine ⟨_, rfl, rfl, _, rfl, iteB (fun e => absurd e (by decide)) (fun _ => ifF ?_)⟩
      refine ⟨_, rfl, ?_⟩
      refine k _ q a7 r7 _ (hqb (b4.trans b8) (setbut _ _)) (hLq _ (p7.same s8) hLq0) (by omega) nqH upd_same (hsetne _) (by rw [List.length_set]; omega) (hseto _ _ ⟨_, .str _ (by omega) hss2⟩) (hset _)
    · refine ⟨_, rfl, rfl, _, rfl, iteB (fun e => absurd e (by decide)) (fun _ => ?_)⟩
      refine ⟨_, rfl, rfl, _, rfl, iteB (fun e => absurd e (by decide)) (fun _ => ?_)⟩
      refine ⟨_, rfl, rfl, _, rfl, iteB (fun _ => ?_) (fun e => absurd e (by decide))⟩
      have hat1 : at2 + 1 = ((at2.toNat + 1 : Nat) : Int) := by omega
      obtain ⟨wm, hwm, hwmm⟩ : ∃ l, atI (ws.map VT) (if at2 - 1 > 0 then at2 - 1 else 0) = some (VT l) ∧ l ∈ ws := by
        have hj : ∃ j : Nat, (if at2 - 1 > 0 then at2 - 1 else 0) = (j : Int) ∧ j < ws.length := ⟨(if at2 - 1 > 0 then at2 - 1 else 0).toNat, by split <;> omega, by split <;> omega⟩
        obtain ⟨j, ej, hj⟩ := hj
        rw [ej]
        exact ⟨_, atI_nat (by rw [List.getElem?_map, List.getElem?_eq_getElem hj]; rfl), List.getElem_mem hj⟩
      refine ⟨_, rfl, _, rfl, _, _, rfl, rfl, _, rfl, q, _, rfl, SqL.of hq4, fun c1 n1 => ?_⟩
      rw [hat1]
      have t1 := same_upd (o := .lst (cutV (ws.map VT) none (some ((at2.toNat + 1 : Nat) : Int)))) s4 n1
      have hc1 : upd (upd H2 q (.lst (ws.map VT))) c1 (.lst (cutV (ws.map VT) none (some ((at2.toNat + 1 : Nat) : Int)))) c1 = some _ := upd_same
      have hq5 := same_upd (o := .lst (cutV (ws.map VT) none (some ((at2.toNat + 1 : Nat) : Int)))) (Same.refl _) n1 _ _ hq4
      have ha5 := same_upd (o := .lst (cutV (ws.map VT) none (some ((at2.toNat + 1 : Nat) : Int)))) (Same.refl _) n1 _ _ ha4
      have sA := same_upd (o := .lst (cutV (ws.map VT) none (some ((at2.toNat + 1 : Nat) : Int)))) (Same.refl (upd H2 q (.lst (ws.map VT)))) n1
      generalize upd (upd H2 q (.lst (ws.map VT))) c1 (.lst (cutV (ws.map VT) none (some ((at2.toNat + 1 : Nat) : Int)))) = H5 at *
      refine ⟨_, rfl, _, rfl, _, _, rfl, rfl, _, _, rfl, a, _, _, VT wm, rfl, rfl, SqL.of ha5, hwm, (by show 1 ≤ sizeLine; decide), fun c2 n2 => ?_⟩
      have hc2 : upd H5 c2 (.lst [VT wm]) c2 = some (.lst [VT wm]) := upd_same
      have sB := same_upd (o := .lst [VT wm]) (Same.refl H5) n2
      generalize upd H5 c2 (.lst [VT wm]) = H6 at *
      refine ⟨c1, c2, _, _, rfl, rfl, sB _ _ hc1, hc2, ?_, fun c3 n3 => ?_⟩
      · have := cutV_length (ws.map VT) none (some ((at2.toNat + 1 : Nat) : Int))
        rw [hml] at this
        show _ + 1 ≤ _
        exact small_line (by omega)
      have hc3 : upd H6 c3 (.lst (cutV (ws.map VT) none (some ((at2.toNat + 1 : Nat) : Int)) ++ [VT wm])) c3 = some _ := upd_same
      have sC := same_upd (o := .lst (cutV (ws.map VT) none (some ((at2.toNat + 1 : Nat) : Int)) ++ [VT wm])) (Same.refl H6) n3
      generalize upd H6 c3 (.lst (cutV (ws.map VT) none (some ((at2.toNat + 1 : Nat) : Int)) ++ [VT wm])) = H7 at *
      have hq7 := sC _ _ (sB _ _ hq5)
      refine ⟨_, rfl, _, rfl, _, _, rfl, rfl, _, rfl, q, _, rfl, SqL.of hq7, fun c4 n4 => ?_⟩
      rw [hat1]
      have hc4 : upd H7 c4 (.lst (cutV (ws.map VT) (some ((at2.toNat + 1 : Nat) : Int)) none)) c4 = some _ := upd_same
      have sD := same_upd (o := .lst (cutV (ws.map VT) (some ((at2.toNat + 1 : Nat) : Int)) none)) (Same.refl H7) n4
      generalize upd H7 c4 (.lst (cutV (ws.map VT) (some ((at2.toNat + 1 : Nat) : Int)) none)) = H8 at *
      have hl1 := cutV_length (ws.map VT) none (some ((at2.toNat + 1 : Nat) : Int))
      have hl2 := cutV_length (ws.map VT) (some ((at2.toNat + 1 : Nat) : Int)) none
      rw [hml] at hl1 hl2
      refine ⟨c3, c4, _, _, rfl, rfl, sD _ _ hc3, hc4, ?_, fun c5 n5 => ?_⟩
      · rw [List.length_append, List.length_singleton]
        exact small_line (by omega)
      have sE := same_upd (o := .lst ((cutV (ws.map VT) none (some ((at2.toNat + 1 : Nat) : Int)) ++ [VT wm]) ++ cutV (ws.map VT) (some ((at2.toNat + 1 : Nat) : Int)) none)) (Same.refl H8) n5
      have sAll := same_tr (same_tr (same_tr (same_tr sA sB) sC) sD) sE
      have nH : H c5 = none := f2 _ (s4.free (same_tr (same_tr (same_tr sA sB) sC) sD |>.free n5))
      refine ⟨_, rfl, rfl, _, rfl, iteB (fun e => absurd e (by decide)) (fun _ => ?_)⟩
      refine ⟨_, rfl, rfl, _, rfl, iteB (fun e => absurd e (by decide)) (fun _ => ifF ?_)⟩
      refine ⟨_, rfl, ?_⟩
      refine k _ c5 a2 r2 _ (b4.trans (But.of sAll)) (p4.same sAll) (by omega) nH upd_same (by simp) ?_ (fun x hx => ?_) ⟨wm, by simp, (hbs wm hwmm).1⟩
      · rw [List.length_append, List.length_append, List.length_singleton]
        omega
      · rcases List.mem_append.mp hx with hx | hx
        · rcases List.mem_append.mp hx with hx | hx
          · exact hws _ x (cutV_mem hx)
          · rw [List.mem_singleton.mp hx]
            obtain ⟨e1, e2⟩ := hbs wm hwmm
            exact ⟨_, .str wm (by omega) e2⟩
        · exact hws _ x (cutV_mem hx)
    · refine ⟨_, rfl, rfl, _, rfl, iteB (fun e => absurd e (by decide)) (fun _ => ?_)⟩
      refine ⟨_, rfl, rfl, _, rfl, iteB (fun e => absurd e (by decide)) (fun _ => ?_)⟩
      refine ⟨_, rfl, rfl, _, rfl, iteB (fun e => absurd e (by decide)) (fun _ => ?_)⟩
      refine ⟨_, rfl, rfl, _, rfl, iteB (fun _ => ?_) (fun e => absurd e (by decide))⟩
      refine ⟨_, rfl, _, rfl, _, rfl, a, _, at2, VT wr, rfl, rfl, SqL.of ha4, hrat, (by show 1 ≤ sizeLine; decide), fun c2 n2 => ?_⟩
      have hc2 : upd (upd H2 q (.lst (ws.map VT))) c2 (.lst [VT wr]) c2 = some (.lst [VT wr]) := upd_same
      have sB := same_upd (o := .lst [VT wr]) (Same.refl (upd H2 q (.lst (ws.map VT)))) n2
      generalize upd (upd H2 q (.lst (ws.map VT))) c2 (.lst [VT wr]) = H6 at *
      refine ⟨q, c2, _, _, rfl, rfl, sB _ _ hq4, hc2, ?_, fun c3 n3 => ?_⟩
      · rw [hml]
        show _ + 1 ≤ _
        exact small_line (by omega)
      have sC := same_upd (o := .lst (ws.map VT ++ [VT wr])) (Same.refl H6) n3
      have sAll := same_tr sB sC
      have nH : H c3 = none := f2 _ (s4.free (sB.free n3))
      refine ⟨_, rfl, rfl, _, rfl, iteB (fun e => absurd e (by decide)) (fun _ => ifF ?_)⟩
      refine ⟨_, rfl, ?_⟩
      refine k _ c3 a2 r2 _ (b4.trans (But.of sAll)) (p4.same sAll) (by omega) nH upd_same (by simp) ?_ (fun x hx => ?_) ⟨wr, by simp, hwr1⟩
      · rw [List.length_append, List.length_singleton, hml]
        omega
      · rcases List.mem_append.mp hx with hx | hx
        · exact hws _ x hx
        · rw [List.mem_singleton.mp hx]
          exact ⟨_, .str wr (by omega) hwr2⟩
    · refine ⟨_, rfl, rfl, _, rfl, iteB (fun e => absurd e (by decide)) (fun _ => ?_)⟩
      refine ⟨_, rfl, rfl, _, rfl, iteB (fun e => absurd e (by decide)) (fun _ => ?_)⟩
      refine ⟨_, rfl, rfl, _, rfl, iteB (fun e => absurd e (by decide)) (fun _ => ?_)⟩
      refine ⟨_, rfl, rfl, _, rfl, iteB (fun e => absurd e (by decide)) (fun _ => ?_)⟩
      refine ⟨_, rfl, rfl, _, rfl, iteB (fun _ => ?_) (fun e => absurd e (by decide))⟩
      refine ⟨_, rfl, a, _, rfl, .inl (SqL.of ha4), _, _, rfl, rfl, _, rfl, iteB (fun _ => ?_) (fun e => absurd (of_decide_eq_false e) (by rw [hml]; omega))⟩
      have hat1 : at2 + 1 = ((at2.toNat + 1 : Nat) : Int) := by omega
      have hat0 : at2 = ((at2.toNat : Nat) : Int) := by omega
      refine ⟨_, rfl, _, rfl, _, rfl, q, _, rfl, SqL.of hq4, fun c1 n1 => ?_⟩
      have hc1 : upd (upd H2 q (.lst (ws.map VT))) c1 (.lst (cutV (ws.map VT) none (some at2))) c1 = some _ := upd_same
      have sA := same_upd (o := .lst (cutV (ws.map VT) none (some at2))) (Same.refl (upd H2 q (.lst (ws.map VT)))) n1
      generalize upd (upd H2 q (.lst (ws.map VT))) c1 (.lst (cutV (ws.map VT) none (some at2))) = H5 at *
      refine ⟨_, rfl, _, rfl, _, _, rfl, rfl, _, rfl, q, _, rfl, SqL.of (sA _ _ hq4), fun c4 n4 => ?_⟩
      rw [hat1]
      have hc4 : upd H5 c4 (.lst (cutV (ws.map VT) (some ((at2.toNat + 1 : Nat) : Int)) none)) c4 = some _ := upd_same
      have sD := same_upd (o := .lst (cutV (ws.map VT) (some ((at2.toNat + 1 : Nat) : Int)) none)) (Same.refl H5) n4
      generalize upd H5 c4 (.lst (cutV (ws.map VT) (some ((at2.toNat + 1 : Nat) : Int)) none)) = H8 at *
      have hl1 := cutV_length (ws.map VT) none (some at2)
      have hl2 := cutV_length (ws.map VT) (some ((at2.toNat + 1 : Nat) : Int)) none
      rw [hml] at hl1 hl2
      refine ⟨c1, c4, _, _, rfl, rfl, sD _ _ hc1, hc4, small_line (by omega), fun c5 n5 => ?_⟩
      have sE := same_upd (o := .lst (cutV (ws.map VT) none (some at2) ++ cutV (ws.map VT) (some ((at2.toNat + 1 : Nat) : Int)) none)) (Same.refl H8) n5
      have sAll := same_tr (same_tr sA sD) sE
      have nH : H c5 = none := f2 _ (s4.free ((same_tr sA sD).free n5))
      have hkeep : ∃ l, VT l ∈ cutV (ws.map VT) none (some at2) ++ cutV (ws.map VT) (some ((at2.toNat + 1 : Nat) : Int)) none ∧ l.length = n := by
        by_cases h0 : at2.toNat = 0
        · obtain ⟨l, hl⟩ : ∃ l, ws[1]? = some l := ⟨_, List.getElem?_eq_getElem (by omega)⟩
          refine ⟨l, List.mem_append_right _ ?_, (hbs l (List.mem_of_getElem? hl)).1⟩
          rw [cutV_from, h0]
          refine List.mem_of_getElem? (i := 0) ?_
          rw [List.getElem?_drop, List.getElem?_map]
          show Option.map VT ws[1]? = _
          rw [hl]
          rfl
        · refine ⟨w0, List.mem_append_left _ ?_, hw01⟩
          rw [hat0, cutV_to]
          refine List.mem_of_getElem? (i := 0) ?_
          rw [List.getElem?_take_of_lt (by omega), List.getElem?_map, hw0]
          rfl
      refine ⟨_, rfl, ?_⟩
      refine k _ c5 a2 r2 _ (b4.trans (But.of sAll)) (p4.same sAll) (by omega) nH upd_same ?_ ?_ (fun x hx => ?_) hkeep
      · obtain ⟨l, hl, _⟩ := hkeep
        intro e
        rw [e] at hl
        cases hl
      · rw [List.length_append]
        omega
      · rcases List.mem_append.mp hx with hx | hx
        · exact hws _ x (cutV_mem hx)
        · exact hws _ x (cutV_mem hx)
    · refine ⟨_, rfl, rfl, _, rfl, iteB (fun e => absurd e (by decide)) (fun _ => ?_)⟩
      refine ⟨_, rfl, rfl, _, rfl, iteB (fun e => absurd e (by decide)) (fun _ => ?_)⟩
      refine ⟨_, rfl, rfl, _, rfl, iteB (fun e => absurd e (by decide)) (fun _ => ?_)⟩
      refine ⟨_, rfl, rfl, _, rfl, iteB (fun e => absurd e (by decide)) (fun _ => ?_)⟩
      refine ⟨_, rfl, rfl, _, rfl, iteB (fun e => absurd e (by decide)) (fun _ => ifF ?_)⟩
      refine ⟨_, rfl, ?_⟩
      exact k _ q a2 r2 _ b4 p4 (by omega) nqH hq4 hwne (by omega) (hws _) hwn
end
end Ev
namespace Mi
theorem put_len {α : Type} (b : List (W × α)) (k : W) (x : α) : (put b k x).length ≤ b.length + 1 := by
  unfold put
  split
  · rw [List.length_map]; omega
  · rw [List.length_append]; simp
theorem put_mem {α : Type} {b : List (W × α)} {k : W} {x : α} {q : W × α} (h : q ∈ put b k x) : q ∈ b ∨ q.2 = x := by
  unfold put at h
  split at h
  · obtain ⟨p, hp, rfl⟩ := List.mem_map.mp h
    split
    · exact .inr rfl
    · exact .inl hp
  · rcases List.mem_append.mp h with h | h
    · exact .inl h
    · rw [List.mem_singleton.mp h]; exact .inr rfl
theorem put_keys {α : Type} {b : List (W × α)} {k : W} {x : α} (h : (b.map (·.1)).Nodup) : ((put b k x).map (·.1)).Nodup := by
  unfold put
  split
  · have e : (b.map fun p => if p.1 = k then (p.1, x) else p).map (·.1) = b.map (·.1) := by
      rw [List.map_map]
      refine List.map_congr_left fun p _ => ?_
      show (if p.1 = k then (p.1, x) else p).1 = p.1
      split <;> rfl
    rw [e]
    exact h
  · rename_i hn
    rw [List.map_append, List.nodup_append]
    refine ⟨h, by simp, fun a ha c hc => ?_⟩
    rw [List.mem_singleton.mp hc]
    rintro rfl
    obtain ⟨p, hp, e⟩ := List.mem_map.mp ha
    exact hn (List.any_eq_true.mpr ⟨p, hp, decide_eq_true e⟩)
theorem get_of {α : Type} {k : W} {x : α} : ∀ {b : List (W × α)}, (b.map (·.1)).Nodup → (k, x) ∈ b → get b k = some x
  | [], _, h => by cases h
  | p :: r, nd, h => by
    rw [List.map_cons, List.nodup_cons] at nd
    unfold get
    rw [List.find?_cons]
    rcases List.mem_cons.mp h with e | h2
    · rw [← e]
      simp
    · have hne : p.1 ≠ k := fun e => nd.1 (List.mem_map.mpr ⟨(k, x), h2, e.symm⟩)
      rw [decide_eq_false hne]
      exact get_of nd.2 h2
theorem get_mem {α : Type} {b : List (W × α)} {k : W} {x : α} (h : get b k = some x) : (k, x) ∈ b := by
  unfold get at h
  obtain ⟨p, hp, rfl⟩ := Option.map_eq_some_iff.mp h
  have h1 := List.mem_of_find?_eq_some hp
  have h2 : p.1 = k := by
    have := List.find?_some hp
    exact of_decide_eq_true this
  rw [← h2]
  exact h1
theorem min2_or (a b : W) : min2 a b = a ∨ min2 a b = b := by
  unfold min2
  split
  · exact .inr rfl
  · exact .inl rfl
theorem tree_ne (w : W) : tree w ≠ [] := by
  have go : ∀ n (acc : List W), acc ≠ [] → treeGo n w acc ≠ [] := fun n => by
    induction n with
    | zero => intro acc h; exact h
    | succ n ih =>
      intro acc h
      unfold treeGo
      split
      · exact h
      · exact ih _ (by simp)
  exact go _ _ (by simp)
theorem words_ok : ∀ p, p ≤ 4 → (allWords p).length ≤ 14 ∧ ∀ w ∈ allWords p, w.length ≤ 8 := by
  have key : ∀ p : Nat, p < 5 → (decide ((allWords p).length ≤ 14) && (allWords p).all fun w => decide (w.length ≤ 8)) = true := by decide +kernel
  intro p hp
  have := key p (by omega)
  rw [Bool.and_eq_true] at this
  exact ⟨of_decide_eq_true this.1, fun w hw => of_decide_eq_true (List.all_eq_true.mp this.2 w hw)⟩
end Mi
namespace Ev
open PySem L2 PyProof.Rows
section
variable {α : Type}
def EQ (R : V → α → Prop) : (Key × V) → (List Nat × α) → Prop := fun kv b => kv.1 = .inr (T b.1) ∧ R kv.2 b.2
theorem al_len {β γ : Type} {F : β → γ → Prop} {l : List β} {m : List γ} (h : Paired F l m) : l.length = m.length := Paired.length h
theorem key_iff {a b : List Nat} : ((Sum.inr (T a) : Key) = Sum.inr (T b)) ↔ a = b := ⟨fun e => T_inj.mp (Sum.inr.inj e), fun e => by rw [e]⟩
theorem al_any {R : V → α → Prop} {k : List Nat} : ∀ {kvs : List (Key × V)} {b : List (List Nat × α)}, Paired (EQ R) kvs b → (kvs.any fun kv => decide (kv.1 = (Sum.inr (T k) : Key))) = b.any fun p => decide (p.1 = k)
  | _, _, .nil => rfl
  | _, _, .cons (a := kv) (b := p) h t => by
    rw [List.any_cons, List.any_cons, al_any t, h.1]
    congr 1
    by_cases e : p.1 = k
    · rw [decide_eq_true e, decide_eq_true (key_iff.mpr e)]
    · rw [decide_eq_false e, decide_eq_false fun z => e (key_iff.mp z)]
theorem al_put {R : V → α → Prop} {k : List Nat} {v : V} {x : α} (hv : R v x) {kvs : List (Key × V)} {b : List (List Nat × α)} (h : Paired (EQ R) kvs b) : Paired (EQ R) (putK kvs (Sum.inr (T k) : Key) v) (Mi.put b k x) := by
  unfold putK Mi.put
  rw [al_any h]
  split
  · have go : ∀ {kvs : List (Key × V)} {b : List (List Nat × α)}, Paired (EQ R) kvs b → Paired (EQ R) (kvs.map fun kv => if kv.1 = (Sum.inr (T k) : Key) then (kv.1, v) else kv) (b.map fun p => if p.1 = k then (p.1, x) else p) := fun h => by
      induction h with
      | nil => exact .nil
      | cons h t ih =>
        rename_i kv p _ _
        rw [List.map_cons, List.map_cons]
        refine .cons ?_ ih
        by_cases e : p.1 = k
        · rw [if_pos e, if_pos (by rw [h.1]; exact key_iff.mpr e)]
          exact ⟨h.1, hv⟩
        · rw [if_neg e, if_neg (by rw [h.1]; exact fun z => e (key_iff.mp z))]
          exact h
    exact go h
  · exact Paired.snoc h ⟨rfl, hv⟩
theorem al_get {R : V → α → Prop} {k : List Nat} : ∀ {kvs : List (Key × V)} {b : List (List Nat × α)}, Paired (EQ R) kvs b → (Mi.get b k = none → valV kvs (Sum.inr (T k) : Key) = none) ∧ ∀ x, Mi.get b k = some x → ∃ v, valV kvs (Sum.inr (T k) : Key) = some v ∧ R v x
  | _, _, .nil => ⟨fun _ => rfl, fun x h => nomatch h⟩
  | _, _, .cons (a := kv) (b := p) h t => by
    obtain ⟨i1, i2⟩ := al_get (k := k) t
    unfold Mi.get
    rw [List.find?_cons]
    by_cases e : p.1 = k
    · rw [decide_eq_true e]
      have e2 : kv.1 = (Sum.inr (T k) : Key) := by rw [h.1]; exact key_iff.mpr e
      refine ⟨fun z => (nomatch z), fun x z => ?_⟩
      cases z
      exact ⟨kv.2, valV_pos e2, h.2⟩
    · rw [decide_eq_false e]
      have e2 : ¬ kv.1 = (Sum.inr (T k) : Key) := by rw [h.1]; exact fun z => e (key_iff.mp z)
      rw [valV_neg e2]
      exact ⟨i1, i2⟩
theorem al_mono {R R' : V → α → Prop} (hr : ∀ v x, R v x → R' v x) {kvs : List (Key × V)} {b : List (List Nat × α)} (h : Paired (EQ R) kvs b) : Paired (EQ R') kvs b := Paired.mapP h fun _ _ z => ⟨z.1, hr _ _ z.2⟩
theorem al_at {R : V → α → Prop} : ∀ {kvs : List (Key × V)} {b : List (List Nat × α)} {i : Nat} {p : List Nat × α}, Paired (EQ R) kvs b → b[i]? = some p → ∃ v, kvs[i]? = some (Sum.inr (T p.1), v) ∧ R v p.2
  | _, _, i, p, .nil, h => by cases i <;> cases h
  | _, _, 0, p, .cons (a := kv) h t, e => by
    cases e
    exact ⟨kv.2, by rw [← h.1]; rfl, h.2⟩
  | _, _, i + 1, p, .cons h t, e => by
    obtain ⟨v, h1, h2⟩ := al_at (i := i) (p := p) t e
    exact ⟨v, h1, h2⟩
end
/-- a dict of texts; a dict of lists of texts -/
def RT : V → List Nat → Prop := fun v w => v = VT w
def RL (H : Hp) : V → List (List Nat) → Prop := fun v ws => ∃ r, v = .ref r ∧ H r = some (.lst (ws.map VT))
def CT (H : Hp) (d : Addr) (c : List (List Nat × List Nat)) : Prop := ∃ kvs, H d = some (.dK kvs) ∧ Paired (EQ RT) kvs c
def BL (H : Hp) (d : Addr) (b : List (List Nat × List (List Nat))) : Prop := ∃ kvs, H d = some (.dK kvs) ∧ Paired (EQ (RL H)) kvs b
theorem BL.move {H H' : Hp} {d : Addr} {b : List (List Nat × List (List Nat))} (h : BL H d b) (hd : ∀ kvs, H d = some (.dK kvs) → H' d = some (.dK kvs)) (hl : ∀ r l, H r = some (.lst l) → H' r = some (.lst l)) : BL H' d b := by
  obtain ⟨kvs, h1, h2⟩ := h
  exact ⟨kvs, hd _ h1, al_mono (fun v x ⟨r, e, hr⟩ => ⟨r, e, hl _ _ hr⟩) h2⟩
theorem BL.same {H H' : Hp} {d : Addr} {b : List (List Nat × List (List Nat))} (h : BL H d b) (s : Same H H') : BL H' d b := h.move (fun _ e => s _ _ e) fun _ _ e => s _ _ e
theorem CT.move {H H' : Hp} {d : Addr} {c : List (List Nat × List Nat)} (h : CT H d c) (hd : ∀ kvs, H d = some (.dK kvs) → H' d = some (.dK kvs)) : CT H' d c := by
  obtain ⟨kvs, h1, h2⟩ := h
  exact ⟨kvs, hd _ h1, h2⟩
/-- a dict's own change leaves lists and other dicts -/
theorem dict_upd_lst {H : Hp} {d : Addr} {kvs kvs' : List (Key × V)} (h : H d = some (.dK kvs)) : ∀ r l, H r = some (.lst l) → upd H d (.dK kvs') r = some (.lst l) := fun r l e => by
  rw [upd_ne (fun z => by rw [z, h] at e; cases e)]
  exact e
theorem BL.put {H : Hp} {d : Addr} {b : List (List Nat × List (List Nat))} {k : List Nat} {r : Addr} {ws : List (List Nat)} (h : BL H d b) (hr : H r = some (.lst (ws.map VT))) : ∀ kvs, H d = some (.dK kvs) → BL (upd H d (.dK (putK kvs (Sum.inr (T k) : Key) (.ref r)))) d (Mi.put b k ws) := by
  intro kvs hk
  obtain ⟨kvs', h1, h2⟩ := h
  rw [h1] at hk
  cases hk
  exact ⟨_, upd_same, al_put (R := RL _) ⟨r, rfl, dict_upd_lst h1 _ _ hr⟩ (al_mono (fun v x ⟨r, e, hr⟩ => ⟨r, e, dict_upd_lst h1 _ _ hr⟩) h2)⟩
theorem BL.len {H : Hp} {d : Addr} {b : List (List Nat × List (List Nat))} (h : BL H d b) : ∀ kvs, H d = some (.dK kvs) → kvs.length = b.length := by
  intro kvs hk
  obtain ⟨kvs', h1, h2⟩ := h
  rw [h1] at hk
  cases hk
  exact al_len h2
theorem BL.get {H : Hp} {d : Addr} {b : List (List Nat × List (List Nat))} {k : List Nat} {ws : List (List Nat)} (h : BL H d b) (hg : Mi.get b k = some ws) : ∃ r, DGet H d (VT k) (some (.ref r)) ∧ H r = some (.lst (ws.map VT)) := by
  obtain ⟨kvs, h1, h2⟩ := h
  obtain ⟨v, e1, r, rfl, hr⟩ := (al_get h2).2 _ hg
  have := DGet.k (k := (Sum.inr (T k) : Key)) h1
  rw [e1] at this
  exact ⟨r, this, hr⟩
end Ev
namespace Ev
open PySem L2 PyProof.Rows
/-- the heap of _law_states_round: the dicts chosen, beside, above -/
structure St (H H2 : Hp) (dc db da : Addr) (c : List (List Nat × List Nat)) (b a : List (List Nat × List (List Nat))) : Prop where
  same : Same H H2
  nc : H dc = none
  nb : H db = none
  na : H da = none
  cb : dc ≠ db
  ca : dc ≠ da
  ba : db ≠ da
  c : CT H2 dc c
  b : BL H2 db b
  a : BL H2 da a
section
variable {H H2 H3 : Hp} {dc db da : Addr} {c : List (List Nat × List Nat)} {b a : List (List Nat × List (List Nat))}
theorem St.go (h : St H H2 dc db da c b a) (s : Same H2 H3) : St H H3 dc db da c b a := ⟨same_tr h.same s, h.nc, h.nb, h.na, h.cb, h.ca, h.ba, h.c.move fun _ e => s _ _ e, h.b.same s, h.a.same s⟩
theorem St.putc (h : St H H2 dc db da c b a) (k x : List Nat) : ∃ kvs, H2 dc = some (.dK kvs) ∧ kvs.length = c.length ∧ Paired (EQ RT) kvs c ∧ St H (upd H2 dc (.dK (putK kvs (Sum.inr (T k) : Key) (VT x)))) dc db da (Mi.put c k x) b a := by
  obtain ⟨kvs, h1, h2⟩ := h.c
  refine ⟨kvs, h1, al_len h2, h2, same_updN h.same h.nc, h.nc, h.nb, h.na, h.cb, h.ca, h.ba, ⟨_, upd_same, al_put (R := RT) rfl h2⟩, h.b.move (fun kvs e => by rw [upd_ne h.cb.symm]; exact e) (dict_upd_lst h1), h.a.move (fun kvs e => by rw [upd_ne h.ca.symm]; exact e) (dict_upd_lst h1)⟩
theorem St.putb (h : St H H2 dc db da c b a) (k : List Nat) {ws : List (List Nat)} {r : Addr} (hr : H2 r = some (.lst (ws.map VT))) : ∃ kvs, H2 db = some (.dK kvs) ∧ kvs.length = b.length ∧ (∀ q l, H2 q = some (.lst l) → upd H2 db (.dK (putK kvs (Sum.inr (T k) : Key) (.ref r))) q = some (.lst l)) ∧ St H (upd H2 db (.dK (putK kvs (Sum.inr (T k) : Key) (.ref r)))) dc db da c (Mi.put b k ws) a := by
  obtain ⟨kvs, h1, h2⟩ := id h.b
  refine ⟨kvs, h1, al_len h2, dict_upd_lst h1, same_updN h.same h.nb, h.nc, h.nb, h.na, h.cb, h.ca, h.ba, h.c.move fun kvs e => by rw [upd_ne h.cb]; exact e, h.b.put hr kvs h1, h.a.move (fun kvs e => by rw [upd_ne h.ba.symm]; exact e) (dict_upd_lst h1)⟩
theorem St.puta (h : St H H2 dc db da c b a) (k : List Nat) {ws : List (List Nat)} {r : Addr} (hr : H2 r = some (.lst (ws.map VT))) : ∃ kvs, H2 da = some (.dK kvs) ∧ kvs.length = a.length ∧ (∀ q l, H2 q = some (.lst l) → upd H2 da (.dK (putK kvs (Sum.inr (T k) : Key) (.ref r))) q = some (.lst l)) ∧ St H (upd H2 da (.dK (putK kvs (Sum.inr (T k) : Key) (.ref r)))) dc db da c b (Mi.put a k ws) := by
  obtain ⟨kvs, h1, h2⟩ := id h.a
  refine ⟨kvs, h1, al_len h2, dict_upd_lst h1, same_updN h.same h.na, h.nc, h.nb, h.na, h.cb, h.ca, h.ba, h.c.move fun kvs e => by rw [upd_ne h.ca]; exact e, h.b.move (fun kvs e => by rw [upd_ne h.ba]; exact e) (dict_upd_lst h1), h.a.put hr kvs h1⟩
end
def BI (b : List (List Nat × List (List Nat))) (n : Nat) : Prop := b.length ≤ n ∧ (∀ q ∈ b, q.2.length = 2) ∧ (b.map (·.1)).Nodup
def CI (c : List (List Nat × List Nat)) (n : Nat) : Prop := c.length ≤ n ∧ ∀ q ∈ c, q.2.length ≤ 8
theorem BI.put {b : List (List Nat × List (List Nat))} {n : Nat} (h : BI b n) (k : List Nat) {l : List (List Nat)} (hl : l.length = 2) : BI (Mi.put b k l) (n + 1) := by
  refine ⟨Nat.le_trans (Mi.put_len _ _ _) (by have := h.1; omega), fun q hq => ?_, Mi.put_keys h.2.2⟩
  rcases Mi.put_mem hq with hq | e
  · exact h.2.1 q hq
  · rw [e]; exact hl
theorem BI.get2 {b : List (List Nat × List (List Nat))} {n : Nat} (h : BI b n) {k : List Nat} {l : List (List Nat)} (hg : Mi.get b k = some l) : l.length = 2 := h.2.1 _ (Mi.get_mem hg)
theorem CI.put {c : List (List Nat × List Nat)} {n : Nat} (h : CI c n) (k : List Nat) {x : List Nat} (hx : x.length ≤ 8) : CI (Mi.put c k x) (n + 1) := by
  refine ⟨Nat.le_trans (Mi.put_len _ _ _) (by have := h.1; omega), fun q hq => ?_⟩
  rcases Mi.put_mem hq with hq | e
  · exact h.2 q hq
  · rw [e]; exact hx
theorem CI.get {c : List (List Nat × List Nat)} {n : Nat} (h : CI c n) {k x : List Nat} (hg : Mi.get c k = some x) : x.length ≤ 8 := h.2 _ (Mi.get_mem hg)
theorem al_vals : ∀ {kvs : List (Key × V)} {c : List (List Nat × List Nat)}, Paired (EQ RT) kvs c → kvs.map (·.2) = (c.map (·.2)).map VT
  | _, _, .nil => rfl
  | _, _, .cons h t => by
    rw [List.map_cons, List.map_cons, List.map_cons, al_vals t, h.2]
theorem al_keys {α : Type} {R : V → α → Prop} : ∀ {kvs : List (Key × V)} {c : List (List Nat × α)}, Paired (EQ R) kvs c → (kvs.map fun kv => kV kv.1) = (c.map (·.1)).map VT
  | _, _, .nil => rfl
  | _, _, .cons h t => by
    rw [List.map_cons, List.map_cons, List.map_cons, al_keys t, h.1]
    rfl
def sewF (o : Option (List (List Nat × List (List Nat)))) (w : List Nat) : Option (List (List Nat × List (List Nat))) := o.bind fun b => Mi.sewStep b w
theorem sewF_none : ∀ ws : List (List Nat), ws.foldl sewF none = none
  | [] => rfl
  | w :: ws => sewF_none ws
theorem fold_take {α β : Type} (f : β → α → β) (b : β) {l : List α} {i : Nat} {x : α} (h : l[i]? = some x) : (l.take (i + 1)).foldl f b = f ((l.take i).foldl f b) x := by
  rw [List.take_succ, h, List.foldl_append]
  rfl
theorem sew_some {ws : List (List Nat)} {b0 r : List (List Nat × List (List Nat))} (h : ws.foldl sewF (some b0) = some r) {i : Nat} {w : List Nat} (hw : ws[i]? = some w) {b : List (List Nat × List (List Nat))} (hb : (ws.take i).foldl sewF (some b0) = some b) : ∃ b', Mi.sewStep b w = some b' := by
  cases e : Mi.sewStep b w with
  | some b' => exact ⟨b', rfl⟩
  | none =>
    have h1 : (ws.take (i + 1)).foldl sewF (some b0) = none := by
      rw [fold_take _ _ hw, hb]
      exact e
    have h2 : (ws.take (i + 1) ++ ws.drop (i + 1)).foldl sewF (some b0) = some r := by rw [List.take_append_drop]; exact h
    rw [List.foldl_append, h1, sewF_none] at h2
    cases h2
/-- the same, the lists at other places than af -/
def BX (H : Hp) (af d : Addr) (b : List (List Nat × List (List Nat))) : Prop := d ≠ af ∧ ∃ kvs, H d = some (.dK kvs) ∧ Paired (EQ fun v ws => ∃ r, v = .ref r ∧ r ≠ af ∧ H r = some (.lst (ws.map VT))) kvs b
theorem BX.of {H0 H : Hp} {af d : Addr} {b : List (List Nat × List (List Nat))} (h : BL H0 d b) (n : H0 af = none) (s : Same H0 H) : BX H af d b := by
  obtain ⟨kvs, h1, h2⟩ := h
  exact ⟨ne_of_none h1 n, kvs, s _ _ h1, al_mono (fun v x ⟨r, e, hr⟩ => ⟨r, e, ne_of_none hr n, s _ _ hr⟩) h2⟩
theorem BX.upd {H : Hp} {af d : Addr} {b : List (List Nat × List (List Nat))} (h : BX H af d b) (o : HO) : BX (L2.upd H af o) af d b := by
  obtain ⟨n, kvs, h1, h2⟩ := h
  exact ⟨n, kvs, by rw [upd_ne n]; exact h1, al_mono (fun v x ⟨r, e, hn, hr⟩ => ⟨r, e, hn, by rw [upd_ne hn]; exact hr⟩) h2⟩
theorem BX.look {H : Hp} {af d : Addr} {b : List (List Nat × List (List Nat))} (h : BX H af d b) (k : List Nat) : ∃ o, DGet H d (VT k) o ∧ (Mi.get b k = none → o = none) ∧ ∀ ws, Mi.get b k = some ws → ∃ r, o = some (.ref r) ∧ r ≠ af ∧ H r = some (.lst (ws.map VT)) := by
  obtain ⟨n, kvs, h1, h2⟩ := h
  obtain ⟨g1, g2⟩ := al_get (k := k) h2
  refine ⟨_, DGet.k (k := (Sum.inr (T k) : Key)) h1, g1, fun ws hg => ?_⟩
  obtain ⟨v, e1, r, rfl, e3⟩ := g2 ws hg
  exact ⟨r, e1, e3⟩
theorem atI_m2 {xs : List V} {v : V} (h2 : 2 ≤ xs.length) (h : xs[xs.length - 2]? = some v) : atI xs (-2) = some v := by
  unfold atI ixN
  rw [if_neg (by decide), if_pos (by omega)]
  show xs[((-2 : Int) + xs.length).toNat]? = some v
  rw [show ((-2 : Int) + xs.length).toNat = xs.length - 2 by omega]
  exact h
/-- the pieces of one seam -/
theorem sew_parts {b r : List (List Nat × List (List Nat))} {w : List Nat} (h : Mi.sewStep b w = some r) :
    ∃ l1 x1 l2 x2 l3 x3, Mi.get b (Mi.stateM w 0 [48]) = some l1 ∧ l1[1]? = some x1 ∧
      Mi.get (Mi.put b (Mi.stateM w 0 [48]) [Mi.stateM (Mi.turned ([49, 48, 49] ++ w.drop 3)) 1 [49], x1]) (Mi.stateM ([49, 48, 49] ++ w.drop 3) 0 [48]) = some l2 ∧ l2[1]? = some x2 ∧
      Mi.get (Mi.put (Mi.put b (Mi.stateM w 0 [48]) [Mi.stateM (Mi.turned ([49, 48, 49] ++ w.drop 3)) 1 [49], x1]) (Mi.stateM ([49, 48, 49] ++ w.drop 3) 0 [48]) [Mi.stateM (Mi.turned (Mi.turned (Mi.turned w))) 3 [49], x2]) (Mi.stateM (Mi.turned (Mi.turned (Mi.turned w))) 3 [48]) = some l3 ∧ l3[0]? = some x3 ∧
      r = Mi.put (Mi.put (Mi.put b (Mi.stateM w 0 [48]) [Mi.stateM (Mi.turned ([49, 48, 49] ++ w.drop 3)) 1 [49], x1]) (Mi.stateM ([49, 48, 49] ++ w.drop 3) 0 [48]) [Mi.stateM (Mi.turned (Mi.turned (Mi.turned w))) 3 [49], x2]) (Mi.stateM (Mi.turned (Mi.turned (Mi.turned w))) 3 [48]) [x3, Mi.stateM (Mi.turned w) 1 [49]] := by
  unfold Mi.sewStep at h
  obtain ⟨l1, h1, h⟩ := Option.bind_eq_some_iff.mp h
  obtain ⟨x1, e1, h⟩ := Option.bind_eq_some_iff.mp h
  obtain ⟨l2, h2, h⟩ := Option.bind_eq_some_iff.mp h
  obtain ⟨x2, e2, h⟩ := Option.bind_eq_some_iff.mp h
  obtain ⟨l3, h3, h⟩ := Option.bind_eq_some_iff.mp h
  obtain ⟨x3, e3, h⟩ := Option.bind_eq_some_iff.mp h
  exact ⟨l1, x1, l2, x2, l3, x3, h1, e1, h2, e2, h3, e3, (Option.some.inj h).symm⟩
/-- the pieces of the round -/
theorem round_parts {p : Nat} {rs : List (List Nat)} (h : Mi.roundM p = some rs) : ∃ b l here, (((Mi.allWords p).foldl (Mi.wordStep p) ([], [])).1.map (·.2)).foldl sewF (some ((Mi.allWords p).foldl (Mi.wordStep p) ([], [])).2) = some b ∧
    Mi.get b (List.replicate p 49 ++ List.replicate (p + 1) 48) = some l ∧ l[0]? = some here ∧ Mi.walkGo b (Mi.aboveAll b) (2 * b.length - 1) [List.replicate p 49 ++ List.replicate (p + 1) 48] here = some rs := by
  unfold Mi.roundM at h
  obtain ⟨b, h1, h⟩ := Option.bind_eq_some_iff.mp h
  obtain ⟨l, h2, h⟩ := Option.bind_eq_some_iff.mp h
  obtain ⟨here, h3, h⟩ := Option.bind_eq_some_iff.mp h
  refine ⟨b, l, here, ?_, h2, h3, h⟩
  rw [List.foldl_map]
  exact h1
end Ev
namespace Ev
open PySem L2 PyProof.Rows
def spRound : Sp := fun vs H Q _ => ∃ (p : Nat) (rs : List (List Nat)), vs = [.int (p : Nat)] ∧ p ≤ 4 ∧ Mi.roundM p = some rs ∧ ∀ H' q, Same H H' → H q = none → H' q = some (.lst (rs.map VT)) → Q (.ref q) H'
section
variable {P : Program} {w : World} {K : PySem.W.Frag} {mg : Str → Option Value} {base : Heap}
theorem ok_round {f fW fR fT fS fU : Addr} {fd fdW fdR fdT fdS fdU : FuncData} (F : Fun K "_law_states_round" "_law_states_round" sRound f fd) (B : Bl mg)
    (FW : Fun K "_law_all_words" "_law_all_words" sWords fW fdW) (bW : Binds K fdW ["_law_pairs"] []) (gW : mg "_law_all_words" = some (.ref fW))
    (FR : Fun K "_law_is_right" "_law_is_right" sRight fR fdR) (bR : Binds K fdR ["_law_word_here"] []) (gR : mg "_law_is_right" = some (.ref fR))
    (FT : Fun K "_law_tree" "_law_tree" sTree fT fdT) (bT : Binds K fdT ["_law_word_here"] []) (gT : mg "_law_tree" = some (.ref fT))
    (FS : Fun K "_law_state" "_law_state" sState fS fdS) (bS : Binds K fdS ["_law_word_here", "_law_shift", "_law_sign"] []) (gS : mg "_law_state" = some (.ref fS))
    (FU : Fun K "_law_turned" "_law_turned" sTurned fU fdU) (bU : Binds K fdU ["_law_word_here"] []) (gU : mg "_law_turned" = some (.ref fU)) : FnOk P w K mg base CX0 3 f fd ["_law_pairs"] spRound := by
  have GW : FnOk P w K mg base CX0 1 fW fdW ["_law_pairs"] spWords := ok_words FW B
  have GR : FnOk P w K mg base CX0 1 fR fdR ["_law_word_here"] (spTB Mi.isRight) := ok_right FR B
  have GT : FnOk P w K mg base CX0 2 fT fdT ["_law_word_here"] (spTL Mi.tree) := ok_tree FT B FU bU gU
  have GS : FnOk P w K mg base CX0 1 fS fdS ["_law_word_here", "_law_shift", "_law_sign"] spState := ok_state FS B
  have GU : FnOk P w K mg base CX0 1 fU fdU ["_law_word_here"] (spTT Mi.turned) := ok_turned FU B
  refine F.ok scRound (fun vs H Q E h => ?_) (fun cdv A outer s H vs Q E hr h => ?_)
  · obtain ⟨p, rs, rfl, _⟩ := h
    rfl
  · obtain ⟨p, rs, rfl, hp, hrs, k⟩ := h
    have r1 : Room 1 _ := hr.mono (by decide)
    refine ⟨_, pss_cons (ps_asg (pe_tup (pa_cons (pe_call GW r1 (by rfl) gW FW.kp bW .nil pass0 (pa_cons (pv 0) pa_nil)) (pa_cons pe_dnewK (pa_cons pe_dnewK (pa_cons pe_dnewK pa_nil))))) (pg_tup (n := 4) rfl (pgs_cons (pg_name (i := 1) scRound.nd rfl (Or.inl rfl)) (pgs_cons (pg_name (i := 2) scRound.nd rfl (Or.inl rfl)) (pgs_cons (pg_name (i := 3) scRound.nd rfl (Or.inl rfl)) (pgs_cons (pg_name (i := 4) scRound.nd rfl (Or.inl rfl)) pgs_nil))))))
      (pss_cons (ps_for PassesOwn.never rfl (pi_list (pv 1)) (pg_name (i := 5) scRound.nd rfl (Or.inl rfl))
        (pss_cons (ps_if (pt_val (pe_call GR r1 (by rfl) gR FR.kp bR .nil pass0 (pa_cons (pv 5) pa_nil)))
          (pss_cons (ps_set (i := 6) scRound.nd rfl (Or.inl rfl) (pe_callB (call_minT rfl) (by rfl) B.min PyProof.Rows.boot_min (pa_cons (pe_call GT hr (by rfl) gT FT.kp bT .nil pass0 (pa_cons (pv 5) pa_nil)) pa_nil)))
          (pss_one (ps_dput (hu_of hr) (pv 2) (pv 6) (pe_callB (call_minT2 rfl) (by rfl) B.min PyProof.Rows.boot_min (pa_cons (pe_dget2 (hu_of hr) (pv 2) (pv 6) (pv 5) ⟨rfl, rfl, rfl, rfl⟩) (pa_cons (pv 5) pa_nil))) rfl))) pss_nil)
        (pss_one (ps_for PassesOwn.never rfl (pi_range1 (by rfl) B.range (pa_cons (pe_op op_add (pe_op op_mul pe_int (pv 0)) pe_int) pa_nil)) (pg_name (i := 7) scRound.nd rfl (Or.inl rfl))
          (pss_cons (ps_set (i := 8) scRound.nd rfl (Or.inl rfl) (pe_call GS r1 (by rfl) gS FS.kp bS .nil pass0 (pa_cons (pv 5) (pa_cons (pv 7) (pa_cons pe_str pa_nil)))))
          (pss_one (ps_dput (hu_of hr) (pv 3) (pv 8) (pe_lst (pa_cons (pe_call GS r1 (by rfl) gS FS.kp bS .nil pass0 (pa_cons (pe_call GU r1 (by rfl) gU FU.kp bU .nil pass0 (pa_cons (pv 5) pa_nil)) (pa_cons (pe_op op_add (pv 7) pe_int) (pa_cons pe_str pa_nil)))) (pa_cons (pe_call GS r1 (by rfl) gS FS.kp bS .nil pass0 (pa_cons (pv 5) (pa_cons (pv 7) (pa_cons pe_str pa_nil)))) pa_nil))) rfl)))))))
      (pss_cons (ps_for PassesOwn.never rfl (pi_list (pe_listVals rfl (by rfl) B.list (pv 2))) (pg_name (i := 5) scRound.nd rfl (Or.inl rfl))
        (pss_cons (ps_par (i := 9) (j := 10) rfl scRound.nd rfl rfl (by decide) rfl rfl (pa_cons (pe_op op_add_str pe_str (pe_slice sl_str (pv 5) (po_some pe_int) po_none)) (pa_cons (pe_call GU r1 (by rfl) gU FU.kp bU .nil pass0 (pa_cons (pv 5) pa_nil)) pa_nil)) rfl)
        (pss_cons (ps_par (i := 11) (j := 12) rfl scRound.nd rfl rfl (by decide) rfl rfl (pa_cons (pe_call GU r1 (by rfl) gU FU.kp bU .nil pass0 (pa_cons (pe_call GU r1 (by rfl) gU FU.kp bU .nil pass0 (pa_cons (pv 10) pa_nil)) pa_nil)) (pa_cons (pe_call GS r1 (by rfl) gS FS.kp bS .nil pass0 (pa_cons (pv 9) (pa_cons pe_int (pa_cons pe_str pa_nil)))) pa_nil)) rfl)
        (pss_cons (ps_par (i := 13) (j := 8) rfl scRound.nd rfl rfl (by decide) rfl rfl (pa_cons (pe_call GS r1 (by rfl) gS FS.kp bS .nil pass0 (pa_cons (pv 11) (pa_cons pe_int (pa_cons pe_str pa_nil)))) (pa_cons (pe_call GS r1 (by rfl) gS FS.kp bS .nil pass0 (pa_cons (pv 5) (pa_cons pe_int (pa_cons pe_str pa_nil)))) pa_nil)) rfl)
        (pss_cons (ps_dput (hu_of hr) (pv 3) (pv 8) (pe_lst (pa_cons (pe_call GS r1 (by rfl) gS FS.kp bS .nil pass0 (pa_cons (pe_call GU r1 (by rfl) gU FU.kp bU .nil pass0 (pa_cons (pv 9) pa_nil)) (pa_cons pe_int (pa_cons pe_str pa_nil)))) (pa_cons (pe_ix ix_list (pe_dget (hu_of hr) (pv 3) (pv 8) (fun _ _ => rfl)) pe_int (fun _ _ => rfl)) pa_nil))) rfl)
        (pss_cons (ps_dput (hu_of hr) (pv 3) (pv 12) (pe_lst (pa_cons (pe_call GS r1 (by rfl) gS FS.kp bS .nil pass0 (pa_cons (pv 11) (pa_cons pe_int (pa_cons pe_str pa_nil)))) (pa_cons (pe_ix ix_list (pe_dget (hu_of hr) (pv 3) (pv 12) (fun _ _ => rfl)) pe_int (fun _ _ => rfl)) pa_nil))) rfl)
        (pss_one (ps_dput (hu_of hr) (pv 3) (pv 13) (pe_lst (pa_cons (pe_ix ix_list (pe_dget (hu_of hr) (pv 3) (pv 13) (fun _ _ => rfl)) pe_int (fun _ _ => rfl)) (pa_cons (pe_call GS r1 (by rfl) gS FS.kp bS .nil pass0 (pa_cons (pv 10) (pa_cons pe_int (pa_cons pe_str pa_nil)))) pa_nil))) rfl))))))))
      (pss_cons (ps_for PassesOwn.never rfl (pi_list (pe_callTy (call_list_dK rfl) (by rfl) B.list (by decide +kernel) (pa_cons (pv 3) pa_nil))) (pg_name (i := 8) scRound.nd rfl (Or.inl rfl))
        (pss_one (ps_for PassesOwn.never rfl (pi_list (pe_dget (hu_of hr) (pv 3) (pv 8) (fun _ _ => rfl))) (pg_name (i := 14) scRound.nd rfl (Or.inl rfl))
          (pss_one (ps_dput (hu_of hr) (pv 4) (pv 14) (pe_op op_cat (pe_dget2 (hu_of hr) (pv 4) (pv 14) (pe_lst pa_nil) ⟨rfl, rfl, rfl, rfl⟩) (pe_lst (pa_cons (pv 8) pa_nil))) rfl)))))
      (pss_cons (ps_set (i := 15) scRound.nd rfl (Or.inl rfl) (pe_lst (pa_cons (pe_op op_add_str (pe_op op_mulT pe_str (pv 0)) (pe_op op_mulT pe_str (pe_op op_add (pv 0) pe_int))) pa_nil)))
      (pss_cons (ps_set (i := 16) scRound.nd rfl (Or.inl rfl) (pe_ix ix_list (pe_dget (hu_of hr) (pv 3) (pe_ix ix_list (pv 15) pe_int (fun _ _ => rfl)) (fun _ _ => rfl)) pe_int (fun _ _ => rfl)))
      (pss_cons (ps_for PassesOwn.never rfl (pi_range1 (by rfl) B.range (pa_cons (pe_op op_sub (pe_op op_mul pe_int (pe_callB call_lenD (by rfl) B.len PySem.boot_len (pa_cons (pv 3) pa_nil))) pe_int) pa_nil)) (pg_name (i := 17) scRound.nd rfl (Or.inl rfl))
        (pss_cons (ps_expr (pe_bm PySem.F.plainAttrs_list PySem.F.slot_list_append PySem.F.type_list_append mt_append (pv 15) (pa_cons (pv 16) pa_nil)))
        (pss_cons (ps_set (i := 18) scRound.nd rfl (Or.inl rfl) (pe_ifExp (pt_cmp (pc_din (hu_of hr) (pv 16) (pv 4))) (pe_dget (hu_of hr) (pv 4) (pv 16) (fun _ _ => rfl)) (pe_dget (hu_of hr) (pv 3) (pv 16) (fun _ _ => rfl))))
        (pss_one (ps_set (i := 16) scRound.nd rfl (Or.inl rfl) (pe_ifExp (pt_cmpR op_ne (pe_ix ix_list (pv 18) pe_int (fun _ _ => rfl)) (pe_ix ix_list (pv 15) (pe_un un_neg pe_int) (fun _ _ => rfl)) (nomark _)) (pe_ix ix_list (pv 18) pe_int (fun _ _ => rfl)) (pe_ix ix_list (pv 18) pe_int (fun _ _ => rfl))))))))
      (pss_one (ps_ret (pv 15))))))))), ?_⟩
    -- READING
    obtain ⟨hwl, hw8⟩ := Mi.words_ok p hp
    obtain ⟨bF, lF, hereF, hsew, hgetF, hhereF, hwalk⟩ := round_parts hrs
    refine ⟨_, rfl, p, rfl, hp, fun H1 aw s1 naw haw dc ndc db ndb da nda => ?_⟩
    have ndc0 := s1.free ndc
    have s2 := same_upd (o := .dK []) s1 ndc
    have hdc2 : upd H1 dc (.dK []) dc = some (.dK []) := upd_same
    have haw2 := same_upd (o := .dK []) (Same.refl H1) ndc _ _ haw
    generalize upd H1 dc (.dK []) = H2 at *
    have ndb0 := s2.free ndb
    have s3 := same_upd (o := .dK []) s2 ndb
    have hdb3 : upd H2 db (.dK []) db = some (.dK []) := upd_same
    have t3 := same_upd (o := .dK []) (Same.refl H2) ndb
    have hdc3 := t3 _ _ hdc2
    have haw3 := t3 _ _ haw2
    have ncb := ne_of_none hdc2 ndb
    generalize upd H2 db (.dK []) = H3 at *
    have nda0 := s3.free nda
    have s4 := same_upd (o := .dK []) s3 nda
    have hda4 : upd H3 da (.dK []) da = some (.dK []) := upd_same
    have t4 := same_upd (o := .dK []) (Same.refl H3) nda
    have hdc4 := t4 _ _ hdc3
    have hdb4 := t4 _ _ hdb3
    have haw4 := t4 _ _ haw3
    have nca := ne_of_none hdc3 nda
    have nba := ne_of_none hdb3 nda
    generalize upd H3 da (.dK []) = H4 at *
    refine ⟨(by show 4 ≤ sizeLine; decide), fun tq ntq => ?_⟩
    have t5 := same_upd (o := .tup [.ref aw, .ref dc, .ref db, .ref da]) (Same.refl H4) ntq
    refine ⟨tq, _, rfl, SqT.of upd_same, rfl, _, _, rfl, _, _, rfl, _, _, rfl, _, _, rfl, rfl, ?_⟩
    have haw5 := t5 _ _ haw4
    have st5 : St H (upd H4 tq (.tup [.ref aw, .ref dc, .ref db, .ref da])) dc db da [] [] [] := ⟨same_tr s4 t5, ndc0, ndb0, nda0, ncb, nca, nba, ⟨_, t5 _ _ hdc4, .nil⟩, ⟨_, t5 _ _ hdb4, .nil⟩, ⟨_, t5 _ _ hda4, .nil⟩⟩
    generalize upd H4 tq (.tup [.ref aw, .ref dc, .ref db, .ref da]) = H5 at *
    refine ⟨_, rfl, aw, rfl, ⟨_, SqL.of haw5⟩, for_list (K := K) (a := aw) (xs := (Mi.allWords p).map VT) (fun i σ H2 => ∃ o5 o6 o7 o8, σ = [some (.int (p : Nat)), some (.ref aw), some (.ref dc), some (.ref db), some (.ref da), o5, o6, o7, o8, none, none, none, none, none, none, none, none, none, none] ∧ St H H2 dc db da (((Mi.allWords p).take i).foldl (Mi.wordStep p) ([], [])).1 (((Mi.allWords p).take i).foldl (Mi.wordStep p) ([], [])).2 [] ∧ CI (((Mi.allWords p).take i).foldl (Mi.wordStep p) ([], [])).1 i ∧ BI (((Mi.allWords p).take i).foldl (Mi.wordStep p) ([], [])).2 (9 * i) ∧ H2 aw = some (.lst ((Mi.allWords p).map VT)))
      ⟨none, none, none, none, rfl, st5, ⟨by simp, by simp⟩, ⟨by simp, by simp, by simp⟩, haw5⟩ (fun i σ H2 _ h => let ⟨_, _, _, _, _, _, _, _, h⟩ := h; SqL.of h) ?_ ?_⟩
    · rintro i x σ H2 hx ⟨o5, o6, o7, o8, rfl, st, hci, hbi, hawi⟩
      obtain ⟨w, hwi, rfl⟩ : ∃ w, (Mi.allWords p)[i]? = some w ∧ x = VT w := by
        rw [List.getElem?_map] at hx
        obtain ⟨r, h1, h2⟩ := Option.map_eq_some_iff.mp hx
        exact ⟨r, h1, h2.symm⟩
      have hw8i := hw8 w (List.mem_of_getElem? hwi)
      have hi14 : i < 14 := by
        have := (List.getElem?_eq_some_iff.mp hwi).1
        omega
      refine ⟨_, rfl, w, rfl, by omega, fun H3 s3 => ⟨Mi.isRight w, rfl, ?_⟩⟩
      have st3 := st.go s3
      have haw3 := s3 _ _ hawi
      cases hR : Mi.isRight w with
      | false =>
        have hcs : Mi.chosenStep (((Mi.allWords p).take i).foldl (Mi.wordStep p) ([], [])).1 w = (((Mi.allWords p).take i).foldl (Mi.wordStep p) ([], [])).1 := by
          unfold Mi.chosenStep
          rw [hR]
          rfl
        refine ifF ?_
        refine ⟨_, rfl, _, _, rfl, rfl, .inl ⟨by decide, by decide⟩, _, _, rfl, rfl, _, rfl, by omega, by omega, ?_⟩
        refine for_range (lo := 0) (n := (2 * (p : Int) + 1).toNat) (fun j σ H4 => ∃ o6 o7 o8, σ = [some (.int (p : Nat)), some (.ref aw), some (.ref dc), some (.ref db), some (.ref da), some (VT w), o6, o7, o8, none, none, none, none, none, none, none, none, none, none] ∧ St H H4 dc db da (Mi.chosenStep (((Mi.allWords p).take i).foldl (Mi.wordStep p) ([], [])).1 w) ((List.range j).foldl (Mi.shiftStep w) (((Mi.allWords p).take i).foldl (Mi.wordStep p) ([], [])).2) [] ∧ CI (Mi.chosenStep (((Mi.allWords p).take i).foldl (Mi.wordStep p) ([], [])).1 w) (i + 1) ∧ BI ((List.range j).foldl (Mi.shiftStep w) (((Mi.allWords p).take i).foldl (Mi.wordStep p) ([], [])).2) (9 * i + j) ∧ H4 aw = some (.lst ((Mi.allWords p).map VT)))
          ⟨_, _, _, rfl, by rw [hcs]; exact st3, by rw [hcs]; exact ⟨Nat.le_succ_of_le hci.1, hci.2⟩, hbi, haw3⟩ ?_ ?_
        · rintro j σ H4 hj ⟨o6, o7, o8, rfl, st4, ci4, bi4, haw4⟩
          have hj9 : j ≤ 8 := by omega
          refine ⟨_, rfl, _, rfl, w, (j : Int), [48], by rw [Int.zero_add, s_zero]; rfl, by omega, by decide, fun H5 s5 => ?_⟩
          refine ⟨_, rfl, w, rfl, by omega, fun H6 s6 => ?_⟩
          refine ⟨_, rfl, _, _, rfl, rfl, Mi.turned w, (j : Int) + 1, [49], by rw [Int.zero_add, s_one]; rfl, by rw [turned_len]; omega, by decide, fun H7 s7 => ?_⟩
          refine ⟨_, rfl, _, rfl, w, (j : Int), [49], by rw [Int.zero_add, s_one]; rfl, by omega, by decide, fun H8 s8 => ?_⟩
          refine ⟨(by show 2 ≤ sizeLine; decide), fun q nq => ?_⟩
          have st8 := st4.go (same_tr (same_tr (same_tr s5 s6) s7) s8)
          have haw8 := (same_tr (same_tr (same_tr s5 s6) s7) s8) _ _ haw4
          have s9 := same_upd (o := .lst [VT (Mi.stateM (Mi.turned w) ((j : Int) + 1) [49]), VT (Mi.stateM w (j : Int) [49])]) (Same.refl H8) nq
          have st9 := st8.go s9
          obtain ⟨kvs, hk1, hk2, hk3, st10⟩ := st9.putb (Mi.stateM w (j : Int) [48]) (ws := [Mi.stateM (Mi.turned w) ((j : Int) + 1) [49], Mi.stateM w (j : Int) [49]]) (r := q) upd_same
          refine ⟨_, rfl, _, rfl, db, _, rfl, DPut.k (k := (Sum.inr (T (Mi.stateM w (j : Int) [48])) : Key)) hk1 (by rw [hk2]; have := bi4.1; exact small_line (by omega)), ?_⟩
          refine ⟨_, _, _, rfl, ?_, ci4, ?_, hk3 _ _ (s9 _ _ haw8)⟩
          · rw [List.range_succ, List.foldl_append]
            exact st10
          · rw [List.range_succ, List.foldl_append]
            exact bi4.put _ rfl
        · rintro σ H4 ⟨o6, o7, o8, rfl, st4, ci4, bi4, haw4⟩
          rw [show (2 * (p : Int) + 1).toNat = 2 * p + 1 by omega] at st4 bi4
          refine ⟨_, _, _, _, rfl, ?_, ?_, ?_, haw4⟩
          · rw [fold_take _ _ hwi]
            exact st4
          · rw [fold_take _ _ hwi]
            exact ci4
          · rw [fold_take _ _ hwi]
            exact ⟨by have := bi4.1; exact Nat.le_trans this (by omega), bi4.2⟩
      | true =>
        refine ifT ⟨_, rfl, w, rfl, by omega, fun H4 q4 s4 nq4 hq4 => ⟨q4, Mi.tree w, rfl, hq4, Mi.tree_ne w, ?_⟩⟩
        have st4 := st3.go s4
        obtain ⟨kvs, hk1, hk2, hk3, st5⟩ := st4.putc (Mi.minL (Mi.tree w)) (Mi.min2 ((Mi.get (((Mi.allWords p).take i).foldl (Mi.wordStep p) ([], [])).1 (Mi.minL (Mi.tree w))).getD w) w)
        have hcs : Mi.chosenStep (((Mi.allWords p).take i).foldl (Mi.wordStep p) ([], [])).1 w = Mi.put (((Mi.allWords p).take i).foldl (Mi.wordStep p) ([], [])).1 (Mi.minL (Mi.tree w)) (Mi.min2 ((Mi.get (((Mi.allWords p).take i).foldl (Mi.wordStep p) ([], [])).1 (Mi.minL (Mi.tree w))).getD w) w) := by
          unfold Mi.chosenStep
          rw [hR]
          rfl
        have hgd : (valV kvs (Sum.inr (T (Mi.minL (Mi.tree w))) : Key)).getD (VT w) = VT ((Mi.get (((Mi.allWords p).take i).foldl (Mi.wordStep p) ([], [])).1 (Mi.minL (Mi.tree w))).getD w) ∧ ((Mi.get (((Mi.allWords p).take i).foldl (Mi.wordStep p) ([], [])).1 (Mi.minL (Mi.tree w))).getD w).length ≤ 8 := by
          obtain ⟨g1, g2⟩ := al_get (k := Mi.minL (Mi.tree w)) hk3
          cases hg : Mi.get (((Mi.allWords p).take i).foldl (Mi.wordStep p) ([], [])).1 (Mi.minL (Mi.tree w)) with
          | none =>
            rw [g1 hg]
            exact ⟨rfl, hw8i⟩
          | some x =>
            obtain ⟨v, e1, e2⟩ := g2 x hg
            rw [e1]
            exact ⟨e2, hci.get hg⟩
        refine ⟨_, rfl, dc, rfl, .inl ⟨kvs, .inl hk1⟩, _, rfl, _, rfl, _, DGet.k (k := (Sum.inr (T (Mi.minL (Mi.tree w))) : Key)) hk1, _, rfl, (Mi.get (((Mi.allWords p).take i).foldl (Mi.wordStep p) ([], [])).1 (Mi.minL (Mi.tree w))).getD w, w, by rw [hgd.1], ?_⟩
        refine ⟨_, rfl, _, rfl, dc, _, rfl, DPut.k (k := (Sum.inr (T (Mi.minL (Mi.tree w))) : Key)) hk1 (by rw [hk2]; have := hci.1; exact small_line (by omega)), ?_⟩
        have hm8 : (Mi.min2 ((Mi.get (((Mi.allWords p).take i).foldl (Mi.wordStep p) ([], [])).1 (Mi.minL (Mi.tree w))).getD w) w).length ≤ 8 := by
          rcases Mi.min2_or ((Mi.get (((Mi.allWords p).take i).foldl (Mi.wordStep p) ([], [])).1 (Mi.minL (Mi.tree w))).getD w) w with e | e
          · rw [e]; exact hgd.2
          · rw [e]; exact hw8i
        have haw5 : upd H4 dc (.dK (putK kvs (Sum.inr (T (Mi.minL (Mi.tree w))) : Key) (VT (Mi.min2 ((Mi.get (((Mi.allWords p).take i).foldl (Mi.wordStep p) ([], [])).1 (Mi.minL (Mi.tree w))).getD w) w)))) aw = some (.lst ((Mi.allWords p).map VT)) := dict_upd_lst hk1 _ _ (s4 _ _ haw3)
        refine ⟨_, rfl, _, _, rfl, rfl, .inl ⟨by decide, by decide⟩, _, _, rfl, rfl, _, rfl, by omega, by omega, ?_⟩
        refine for_range (lo := 0) (n := (2 * (p : Int) + 1).toNat) (fun j σ H4 => ∃ o6 o7 o8, σ = [some (.int (p : Nat)), some (.ref aw), some (.ref dc), some (.ref db), some (.ref da), some (VT w), o6, o7, o8, none, none, none, none, none, none, none, none, none, none] ∧ St H H4 dc db da (Mi.chosenStep (((Mi.allWords p).take i).foldl (Mi.wordStep p) ([], [])).1 w) ((List.range j).foldl (Mi.shiftStep w) (((Mi.allWords p).take i).foldl (Mi.wordStep p) ([], [])).2) [] ∧ CI (Mi.chosenStep (((Mi.allWords p).take i).foldl (Mi.wordStep p) ([], [])).1 w) (i + 1) ∧ BI ((List.range j).foldl (Mi.shiftStep w) (((Mi.allWords p).take i).foldl (Mi.wordStep p) ([], [])).2) (9 * i + j) ∧ H4 aw = some (.lst ((Mi.allWords p).map VT)))
          ⟨_, _, _, rfl, by rw [hcs]; exact st5, by rw [hcs]; exact hci.put _ hm8, hbi, haw5⟩ ?_ ?_
        · rintro j σ H4 hj ⟨o6, o7, o8, rfl, st4, ci4, bi4, haw4⟩
          have hj9 : j ≤ 8 := by omega
          refine ⟨_, rfl, _, rfl, w, (j : Int), [48], by rw [Int.zero_add, s_zero]; rfl, by omega, by decide, fun H5 s5 => ?_⟩
          refine ⟨_, rfl, w, rfl, by omega, fun H6 s6 => ?_⟩
          refine ⟨_, rfl, _, _, rfl, rfl, Mi.turned w, (j : Int) + 1, [49], by rw [Int.zero_add, s_one]; rfl, by rw [turned_len]; omega, by decide, fun H7 s7 => ?_⟩
          refine ⟨_, rfl, _, rfl, w, (j : Int), [49], by rw [Int.zero_add, s_one]; rfl, by omega, by decide, fun H8 s8 => ?_⟩
          refine ⟨(by show 2 ≤ sizeLine; decide), fun q nq => ?_⟩
          have st8 := st4.go (same_tr (same_tr (same_tr s5 s6) s7) s8)
          have haw8 := (same_tr (same_tr (same_tr s5 s6) s7) s8) _ _ haw4
          have s9 := same_upd (o := .lst [VT (Mi.stateM (Mi.turned w) ((j : Int) + 1) [49]), VT (Mi.stateM w (j : Int) [49])]) (Same.refl H8) nq
          have st9 := st8.go s9
          obtain ⟨kvs, hk1, hk2, hk3, st10⟩ := st9.putb (Mi.stateM w (j : Int) [48]) (ws := [Mi.stateM (Mi.turned w) ((j : Int) + 1) [49], Mi.stateM w (j : Int) [49]]) (r := q) upd_same
          refine ⟨_, rfl, _, rfl, db, _, rfl, DPut.k (k := (Sum.inr (T (Mi.stateM w (j : Int) [48])) : Key)) hk1 (by rw [hk2]; have := bi4.1; exact small_line (by omega)), ?_⟩
          refine ⟨_, _, _, rfl, ?_, ci4, ?_, hk3 _ _ (s9 _ _ haw8)⟩
          · rw [List.range_succ, List.foldl_append]
            exact st10
          · rw [List.range_succ, List.foldl_append]
            exact bi4.put _ rfl
        · rintro σ H4 ⟨o6, o7, o8, rfl, st4, ci4, bi4, haw4⟩
          rw [show (2 * (p : Int) + 1).toNat = 2 * p + 1 by omega] at st4 bi4
          refine ⟨_, _, _, _, rfl, ?_, ?_, ?_, haw4⟩
          · rw [fold_take _ _ hwi]
            exact st4
          · rw [fold_take _ _ hwi]
            exact ci4
          · rw [fold_take _ _ hwi]
            exact ⟨by have := bi4.1; exact Nat.le_trans this (by omega), bi4.2⟩
    · rintro σ H2 ⟨o5, o6, o7, o8, rfl, st, hci, hbi, hawi⟩
      rw [List.length_map, List.take_length] at st hci hbi
      generalize hcb : (Mi.allWords p).foldl (Mi.wordStep p) ([], []) = cb at *
      obtain ⟨cF, bS⟩ := cb
      have hbi2 : BI bS 126 := ⟨Nat.le_trans hbi.1 (by omega), hbi.2⟩
      obtain ⟨kvs, hk1, hk2⟩ := st.c
      have hcl : cF.length ≤ 14 := Nat.le_trans hci.1 (by omega)
      have hvals := al_vals hk2
      refine ⟨_, rfl, dc, kvs, rfl, hk1, fun ql nql => ?_⟩
      rw [hvals]
      have s6 := same_upd (o := .lst ((cF.map (·.2)).map VT)) (Same.refl H2) nql
      have hql : upd H2 ql (.lst ((cF.map (·.2)).map VT)) ql = some (.lst ((cF.map (·.2)).map VT)) := upd_same
      have st6 := st.go s6
      generalize upd H2 ql (.lst ((cF.map (·.2)).map VT)) = H6 at *
      refine ⟨ql, rfl, ⟨_, SqL.of hql⟩, for_list (K := K) (a := ql) (xs := (cF.map (·.2)).map VT) (fun i σ H7 => ∃ x5 x6 x7 x8 x9 x10 x11 x12 x13 b, σ = [some (.int (p : Nat)), some (.ref aw), some (.ref dc), some (.ref db), some (.ref da), x5, x6, x7, x8, x9, x10, x11, x12, x13, none, none, none, none, none] ∧ St H H7 dc db da cF b [] ∧ ((cF.map (·.2)).take i).foldl sewF (some bS) = some b ∧ BI b (126 + 3 * i) ∧ H7 ql = some (.lst ((cF.map (·.2)).map VT)))
        ⟨_, _, _, _, _, _, _, _, _, bS, rfl, st6, rfl, hbi2, hql⟩ (fun i σ H7 _ h => let ⟨_, _, _, _, _, _, _, _, _, _, _, _, _, _, h⟩ := h; SqL.of h) ?_ ?_⟩
      · rintro i x σ H7 hx ⟨x5, x6, x7, x8, x9, x10, x11, x12, x13, b, rfl, st7, hfold, hbi7, hql7⟩
        obtain ⟨w, hwi, rfl⟩ : ∃ w, (cF.map (·.2))[i]? = some w ∧ x = VT w := by
          rw [List.getElem?_map] at hx
          obtain ⟨r, h1, h2⟩ := Option.map_eq_some_iff.mp hx
          exact ⟨r, h1, h2.symm⟩
        have hw8i : w.length ≤ 8 := by
          obtain ⟨q, hq, rfl⟩ := List.mem_map.mp (List.mem_of_getElem? hwi)
          exact hci.2 q hq
        have hi14 : i < 14 := by
          have := (List.getElem?_eq_some_iff.mp hwi).1
          rw [List.length_map] at this
          omega
        obtain ⟨b', hb'⟩ := sew_some hsew hwi hfold
        obtain ⟨m1, y1, m2, y2, m3, y3, g1, e1, g2, e2, g3, e3, er⟩ := sew_parts hb'
        have hnear : Str.ofString "101" ++ cutS (T w) (some 3) none = T ([49, 48, 49] ++ w.drop 3) := by
          rw [T_drop w (k := 3) (n := 3) rfl, show Str.ofString "101" = T [49, 48, 49] by decide +kernel, T_app]
        have hnl : ([49, 48, 49] ++ w.drop 3 : List Nat).length ≤ 11 := by
          rw [List.length_append, List.length_drop]
          show 3 + _ ≤ 11
          omega
        have l101 : (Str.ofString "101").length = 3 := by decide +kernel
        have hcut := cut_le (l := w) (by omega) (some 3) none
        refine ⟨_, rfl, 3, rfl, T w, rfl, sl1000 (by omega), _, _, rfl, rfl, (by rw [l101]; exact small_line (by omega)), ?_⟩
        rw [hnear]
        refine ⟨_, rfl, w, rfl, by omega, fun H8 t1 => ⟨_, _, rfl, ?_⟩⟩
        have tl := turned_len w
        have tl2 := turned_len (Mi.turned w)
        have tl3 := turned_len (Mi.turned (Mi.turned w))
        refine ⟨_, rfl, Mi.turned w, rfl, by omega, fun H9 t2 => ⟨Mi.turned (Mi.turned w), rfl, by omega, fun H10 t3 => ⟨_, rfl, [49, 48, 49] ++ w.drop 3, 0, [48], by rw [s_zero]; rfl, by omega, by decide, fun H11 t4 => ⟨_, _, rfl, ?_⟩⟩⟩⟩
        refine ⟨_, rfl, Mi.turned (Mi.turned (Mi.turned w)), 3, [48], by rw [s_zero]; rfl, by omega, by decide, fun H12 t5 => ⟨_, rfl, w, 0, [48], by rw [s_zero]; rfl, by omega, by decide, fun H13 t6 => ⟨_, _, rfl, ?_⟩⟩⟩
        have st13 := st7.go (same_tr (same_tr (same_tr (same_tr (same_tr t1 t2) t3) t4) t5) t6)
        have hql13 := (same_tr (same_tr (same_tr (same_tr (same_tr t1 t2) t3) t4) t5) t6) _ _ hql7
        -- beside[low]
        refine ⟨_, rfl, [49, 48, 49] ++ w.drop 3, rfl, by omega, fun H14 t7 => ⟨Mi.turned ([49, 48, 49] ++ w.drop 3), 1, [49], by rw [s_one]; rfl, by rw [turned_len]; omega, by decide, fun H15 t8 => ?_⟩⟩
        have st15 := st13.go (same_tr t7 t8)
        have hql15 := (same_tr t7 t8) _ _ hql13
        obtain ⟨r1, d1, hr1⟩ := st15.b.get g1
        refine ⟨_, rfl, _, rfl, db, _, rfl, d1, r1, _, 1, VT y1, rfl, rfl, SqL.of hr1, atI_nat (j := 1) (by rw [List.getElem?_map, e1]; rfl), (by show 2 ≤ sizeLine; decide), fun q1 nq1 => ?_⟩
        have u1 := same_upd (o := .lst ([Mi.stateM (Mi.turned ([49, 48, 49] ++ w.drop 3)) 1 [49], y1].map VT)) (Same.refl H15) nq1
        obtain ⟨kv1, ka1, kb1, kc1, st16⟩ := (st15.go u1).putb (Mi.stateM w 0 [48]) (ws := [Mi.stateM (Mi.turned ([49, 48, 49] ++ w.drop 3)) 1 [49], y1]) (r := q1) upd_same
        refine ⟨_, rfl, _, rfl, db, _, rfl, DPut.k (k := (Sum.inr (T (Mi.stateM w 0 [48])) : Key)) ka1 (by rw [kb1]; have := hbi7.1; exact small_line (by omega)), ?_⟩
        have hql16 := kc1 _ _ (u1 _ _ hql15)
        have bi16 := hbi7.put (Mi.stateM w 0 [48]) (l := [Mi.stateM (Mi.turned ([49, 48, 49] ++ w.drop 3)) 1 [49], y1]) rfl
        have st17' := st16
        refine ⟨_, rfl, Mi.turned (Mi.turned (Mi.turned w)), 3, [49], by rw [s_one]; rfl, by omega, by decide, fun H17 t9 => ?_⟩
        have st17 := st16.go t9
        have hql17 := t9 _ _ hql16
        obtain ⟨r2, d2, hr2⟩ := st17.b.get g2
        refine ⟨_, rfl, _, rfl, db, _, rfl, d2, r2, _, 1, VT y2, rfl, rfl, SqL.of hr2, atI_nat (j := 1) (by rw [List.getElem?_map, e2]; rfl), (by show 2 ≤ sizeLine; decide), fun q2 nq2 => ?_⟩
        have u2 := same_upd (o := .lst ([Mi.stateM (Mi.turned (Mi.turned (Mi.turned w))) 3 [49], y2].map VT)) (Same.refl H17) nq2
        obtain ⟨kv2, ka2, kb2, kc2, st18⟩ := (st17.go u2).putb (Mi.stateM ([49, 48, 49] ++ w.drop 3) 0 [48]) (ws := [Mi.stateM (Mi.turned (Mi.turned (Mi.turned w))) 3 [49], y2]) (r := q2) upd_same
        refine ⟨_, rfl, _, rfl, db, _, rfl, DPut.k (k := (Sum.inr (T (Mi.stateM ([49, 48, 49] ++ w.drop 3) 0 [48])) : Key)) ka2 (by rw [kb2]; have := bi16.1; exact small_line (by omega)), ?_⟩
        have hql18 := kc2 _ _ (u2 _ _ hql17)
        have bi18 := bi16.put (Mi.stateM ([49, 48, 49] ++ w.drop 3) 0 [48]) (l := [Mi.stateM (Mi.turned (Mi.turned (Mi.turned w))) 3 [49], y2]) rfl
        obtain ⟨r3, d3, hr3⟩ := st18.b.get g3
        refine ⟨_, rfl, _, rfl, db, _, rfl, d3, r3, _, 0, VT y3, rfl, rfl, SqL.of hr3, atI_nat (j := 0) (by rw [List.getElem?_map, e3]; rfl), ?_⟩
        refine ⟨_, rfl, Mi.turned w, 1, [49], by rw [s_one]; rfl, by omega, by decide, fun H19 t10 => ⟨(by show 2 ≤ sizeLine; decide), fun q3 nq3 => ?_⟩⟩
        have st19 := st18.go t10
        have hql19 := t10 _ _ hql18
        have u3 := same_upd (o := .lst ([y3, Mi.stateM (Mi.turned w) 1 [49]].map VT)) (Same.refl H19) nq3
        obtain ⟨kv3, ka3, kb3, kc3, st20⟩ := (st19.go u3).putb (Mi.stateM (Mi.turned (Mi.turned (Mi.turned w))) 3 [48]) (ws := [y3, Mi.stateM (Mi.turned w) 1 [49]]) (r := q3) upd_same
        refine ⟨_, rfl, _, rfl, db, _, rfl, DPut.k (k := (Sum.inr (T (Mi.stateM (Mi.turned (Mi.turned (Mi.turned w))) 3 [48])) : Key)) ka3 (by rw [kb3]; have := bi18.1; exact small_line (by omega)), ?_⟩
        have hql20 := kc3 _ _ (u3 _ _ hql19)
        have bi20 := bi18.put (Mi.stateM (Mi.turned (Mi.turned (Mi.turned w))) 3 [48]) (l := [y3, Mi.stateM (Mi.turned w) 1 [49]]) rfl
        refine ⟨_, _, _, _, _, _, _, _, _, b', rfl, ?_, ?_, ?_, hql20⟩
        · rw [er]
          exact st20
        · rw [fold_take _ _ hwi, hfold]
          exact hb'
        · rw [er]
          exact ⟨Nat.le_trans bi20.1 (by omega), bi20.2⟩
      · rintro σ H7 ⟨x5, x6, x7, x8, x9, x10, x11, x12, x13, b, rfl, st7, hfold, hbi7, hql7⟩
        rw [List.length_map, List.take_length] at hfold
        have hbb : b = bF := Option.some.inj (hfold.symm.trans hsew)
        subst hbb
        have hbl : b.length ≤ 168 := by
          have h1 := hbi7.1
          rw [List.length_map, List.length_map] at h1
          omega
        clear hql7 hql
        obtain ⟨kb, kb1, kb2⟩ := id st7.b
        have hkeys := al_keys kb2
        refine ⟨_, rfl, db, kb, rfl, kb1, fun ql2 nql2 => ?_⟩
        rw [hkeys]
        have s8 := same_upd (o := .lst ((b.map (·.1)).map VT)) (Same.refl H7) nql2
        have hql8 : upd H7 ql2 (.lst ((b.map (·.1)).map VT)) ql2 = some (.lst ((b.map (·.1)).map VT)) := upd_same
        have st8 := st7.go s8
        generalize upd H7 ql2 (.lst ((b.map (·.1)).map VT)) = H8 at *
        refine ⟨ql2, rfl, ⟨_, SqL.of hql8⟩, for_list (K := K) (a := ql2) (xs := (b.map (·.1)).map VT) (fun i σ H9 => ∃ x5 x6 x7 x8 x9 x10 x11 x12 x13 x14 a, σ = [some (.int (p : Nat)), some (.ref aw), some (.ref dc), some (.ref db), some (.ref da), x5, x6, x7, x8, x9, x10, x11, x12, x13, x14, none, none, none, none] ∧ St H H9 dc db da cF b a ∧ a = (b.take i).foldl (fun a kv => Mi.aboveRow a kv.1 kv.2) [] ∧ a.length ≤ 2 * i ∧ (∀ q ∈ a, q.2.length ≤ 2 * i) ∧ H9 ql2 = some (.lst ((b.map (·.1)).map VT)))
          ⟨_, _, _, _, _, _, _, _, _, _, [], rfl, st8, rfl, by simp, by simp, hql8⟩ (fun i σ H9 _ h => let ⟨_, _, _, _, _, _, _, _, _, _, _, _, _, _, _, _, h⟩ := h; SqL.of h) ?_ ?_⟩
        · rintro i x σ H9 hx ⟨x5, x6, x7, x8, x9, x10, x11, x12, x13, x14, a, rfl, st9, ha, hal, ham, hql9⟩
          obtain ⟨q, hqi, rfl⟩ : ∃ q, b[i]? = some q ∧ x = VT q.1 := by
            rw [List.getElem?_map, List.getElem?_map] at hx
            obtain ⟨r, h1, h2⟩ := Option.map_eq_some_iff.mp hx
            obtain ⟨r2, h3, h4⟩ := Option.map_eq_some_iff.mp h1
            exact ⟨r2, h3, by rw [← h2, ← h4]⟩
          obtain ⟨low, ups⟩ := q
          have hget : Mi.get b low = some ups := Mi.get_of hbi7.2.2 (List.mem_of_getElem? hqi)
          have hu2 : ups.length = 2 := hbi7.2.1 _ (List.mem_of_getElem? hqi)
          have hi168 : i < 168 := by
            have := (List.getElem?_eq_some_iff.mp hqi).1
            omega
          obtain ⟨r1, d1, hr1⟩ := st9.b.get hget
          refine ⟨_, rfl, _, rfl, db, _, rfl, d1, r1, rfl, ⟨_, SqL.of hr1⟩, for_list (K := K) (a := r1) (xs := ups.map VT) (fun j σ H10 => ∃ y14 a', σ = [some (.int (p : Nat)), some (.ref aw), some (.ref dc), some (.ref db), some (.ref da), x5, x6, x7, some (VT low), x9, x10, x11, x12, x13, y14, none, none, none, none] ∧ St H H10 dc db da cF b a' ∧ a' = Mi.aboveRow a low (ups.take j) ∧ a'.length ≤ 2 * i + j ∧ (∀ q ∈ a', q.2.length ≤ 2 * i + j) ∧ H10 r1 = some (.lst (ups.map VT)) ∧ H10 ql2 = some (.lst ((b.map (·.1)).map VT)))
            ⟨_, a, rfl, st9, rfl, hal, ham, hr1, hql9⟩ (fun j σ H10 _ h => let ⟨_, _, _, _, _, _, _, h, _⟩ := h; SqL.of h) ?_ ?_⟩
          · rintro j x σ H10 hx ⟨y14, a', rfl, st10, ha', hal', ham', hr10, hql10⟩
            obtain ⟨up, hup, rfl⟩ : ∃ up, ups[j]? = some up ∧ x = VT up := by
              rw [List.getElem?_map] at hx
              obtain ⟨r, h1, h2⟩ := Option.map_eq_some_iff.mp hx
              exact ⟨r, h1, h2.symm⟩
            have hj2 : j < 2 := by
              have := (List.getElem?_eq_some_iff.mp hup).1
              omega
            obtain ⟨ka, ka1, ka2⟩ := id st10.a
            refine ⟨_, rfl, da, rfl, .inl ⟨ka, .inl ka1⟩, _, rfl, (by show 0 ≤ sizeLine; decide), fun p0 np0 => ?_⟩
            have v0 := same_upd (o := .lst []) (Same.refl H10) np0
            have hp0 : upd H10 p0 (.lst []) p0 = some (.lst []) := upd_same
            have hka0 := v0 _ _ ka1
            have st11 := st10.go v0
            have hr11 := v0 _ _ hr10
            have hql11 := v0 _ _ hql10
            have hval : ∃ r, (valV ka (Sum.inr (T up) : Key)).getD (.ref p0) = .ref r ∧ upd H10 p0 (.lst []) r = some (.lst (((Mi.get a' up).getD []).map VT)) ∧ ((Mi.get a' up).getD []).length ≤ 2 * i + j := by
              obtain ⟨g1, g2⟩ := al_get (k := up) ka2
              cases hg : Mi.get a' up with
              | none =>
                rw [g1 hg]
                exact ⟨p0, rfl, hp0, Nat.zero_le _⟩
              | some l =>
                obtain ⟨v, e1, r, rfl, e3⟩ := g2 l hg
                rw [e1]
                exact ⟨r, rfl, v0 _ _ e3, ham' _ (Mi.get_mem hg)⟩
            obtain ⟨rv, hv1, hv2, hv3⟩ := hval
            generalize upd H10 p0 (.lst []) = H11 at *
            refine ⟨_, DGet.k (k := (Sum.inr (T up) : Key)) hka0, ?_⟩
            rw [hv1]
            refine ⟨_, rfl, (by show 1 ≤ sizeLine; decide), fun p1 np1 => ?_⟩
            have v1 := same_upd (o := .lst [VT low]) (Same.refl H11) np1
            have hp1 : upd H11 p1 (.lst [VT low]) p1 = some (.lst [VT low]) := upd_same
            have hv2' := v1 _ _ hv2
            have st12 := st11.go v1
            have hr12 := v1 _ _ hr11
            have hql12 := v1 _ _ hql11
            generalize upd H11 p1 (.lst [VT low]) = H12 at *
            refine ⟨rv, p1, _, _, rfl, rfl, hv2', hp1, (by rw [List.length_map]; show _ + 1 ≤ _; exact small_line (by omega)), fun p2 np2 => ?_⟩
            have v2 := same_upd (o := .lst (((Mi.get a' up).getD []).map VT ++ [VT low])) (Same.refl H12) np2
            have hp2 : upd H12 p2 (.lst (((Mi.get a' up).getD []).map VT ++ [VT low])) p2 = some (.lst (((Mi.get a' up).getD [] ++ [low]).map VT)) := by
              rw [upd_same, List.map_append]
              rfl
            have st13 := st12.go v2
            have hr13 := v2 _ _ hr12
            have hql13 := v2 _ _ hql12
            obtain ⟨kv4, kaa, kab, kac, st14⟩ := st13.puta up hp2
            refine ⟨_, rfl, _, rfl, da, _, rfl, DPut.k (k := (Sum.inr (T up) : Key)) kaa (by rw [kab]; exact small_line (by omega)), ?_⟩
            refine ⟨_, _, rfl, st14, ?_, ?_, ?_, kac _ _ hr13, kac _ _ hql13⟩
            · rw [ha']
              unfold Mi.aboveRow
              rw [fold_take _ _ hup]
            · have := Mi.put_len a' up ((Mi.get a' up).getD [] ++ [low])
              omega
            · intro q hq
              rcases Mi.put_mem hq with hq | e
              · have := ham' q hq
                omega
              · rw [e, List.length_append, List.length_singleton]
                omega
          · rintro σ H10 ⟨y14, a', rfl, st10, ha', hal', ham', hr10, hql10⟩
            rw [List.length_map] at hal' ham'
            rw [List.length_map, List.take_length] at ha'
            refine ⟨_, _, _, _, _, _, _, _, _, _, a', rfl, st10, ?_, by omega, fun q hq => by have := ham' q hq; omega, hql10⟩
            rw [fold_take _ _ hqi, ← ha, ha']
        · rintro σ H9 ⟨x5, x6, x7, x8, x9, x10, x11, x12, x13, x14, a, rfl, st9, ha, hal, ham, hql9⟩
          rw [List.length_map, List.length_map, List.take_length] at ha
          have haF : a = Mi.aboveAll b := ha
          clear hql9
          have hfirst : T (List.replicate ((p : Nat) : Int).toNat 49) ++ T (List.replicate (((p : Nat) : Int) + 1).toNat 48) = T (List.replicate p 49 ++ List.replicate (p + 1) 48) := by
            rw [T_app, Int.toNat_natCast, show (((p : Nat) : Int) + 1).toNat = p + 1 by omega]
          refine ⟨_, rfl, 49, (p : Nat), (by rw [s_one]; rfl), rfl, by omega, by omega, _, rfl, _, _, rfl, rfl, 48, _, (by rw [s_zero]; rfl), rfl, by omega, by omega, _, _, rfl, rfl, ?_, (by show 1 ≤ sizeLine; decide), fun af naf => ?_⟩
          · rw [T_len, T_len, List.length_replicate, List.length_replicate]
            exact small_line (by omega)
          rw [hfirst]
          have z1 := same_upd (o := .lst [.str (T (List.replicate p 49 ++ List.replicate (p + 1) 48))]) (Same.refl H9) naf
          have naf0 : H af = none := st9.same.free naf
          have naf1 := naf
          have haf : upd H9 af (.lst [.str (T (List.replicate p 49 ++ List.replicate (p + 1) 48))]) af = some (.lst ([List.replicate p 49 ++ List.replicate (p + 1) 48].map VT)) := upd_same
          have st10 := st9.go z1
          generalize upd H9 af (.lst [.str (T (List.replicate p 49 ++ List.replicate (p + 1) 48))]) = H10 at *
          obtain ⟨rF, dF, hrF⟩ := st10.b.get hgetF
          refine ⟨_, rfl, _, rfl, af, _, 0, VT (List.replicate p 49 ++ List.replicate (p + 1) 48), rfl, rfl, SqL.of haf, rfl, db, _, rfl, dF, rF, _, 0, VT hereF, rfl, rfl, SqL.of hrF, atI_nat (j := 0) (by rw [List.getElem?_map, hhereF]; rfl), ?_⟩
          obtain ⟨kb3, kb4, kb5⟩ := id st10.b
          have hkl := al_len kb5
          refine ⟨_, rfl, db, kb3, rfl, kb4, _, _, rfl, rfl, .inl ⟨by decide, by decide⟩, _, _, rfl, rfl, _, rfl, by omega, by omega, ?_⟩
          have hn : (2 * ((kb3.length : Nat) : Int) - 1).toNat = 2 * b.length - 1 := by omega
          refine for_range (lo := 0) (n := (2 * ((kb3.length : Nat) : Int) - 1).toNat) (fun i σ H11 => ∃ hr fs z17 z18, σ = [some (.int (p : Nat)), some (.ref aw), some (.ref dc), some (.ref db), some (.ref da), x5, x6, x7, x8, x9, x10, x11, x12, x13, x14, some (.ref af), some (VT hr), z17, z18] ∧ Same H H11 ∧ BX H11 af db b ∧ BX H11 af da a ∧ H11 af = some (.lst (fs.map VT)) ∧ Mi.walkGo b a (2 * b.length - 1 - i) fs hr = some rs ∧ fs.length = i + 1)
            ⟨hereF, _, none, none, rfl, st10.same, BX.of st9.b naf1 z1, BX.of st9.a naf1 z1, haf, by rw [haF]; exact hwalk, rfl⟩ ?_ ?_
          · rintro i σ H11 hi ⟨hr, fs, z17, z18, rfl, s11, bx11, ax11, haf11, hwk, hfl⟩
            rw [hn] at hi
            have hne : 2 * b.length - 1 - i = (2 * b.length - 1 - (i + 1)) + 1 := by omega
            rw [hne] at hwk
            have hwk2 : ((match Mi.get a hr with | some l => some l | none => Mi.get b hr).bind fun both => (both[0]?).bind fun x => ((fs ++ [hr])[(fs ++ [hr]).length - 2]?).bind fun y => if x ≠ y then Mi.walkGo b a (2 * b.length - 1 - (i + 1)) (fs ++ [hr]) x else (both[1]?).bind fun z => Mi.walkGo b a (2 * b.length - 1 - (i + 1)) (fs ++ [hr]) z) = some rs := hwk
            obtain ⟨both, hboth, hwk3⟩ := Option.bind_eq_some_iff.mp hwk2
            obtain ⟨x, hx, hwk4⟩ := Option.bind_eq_some_iff.mp hwk3
            obtain ⟨y, hy, hwk5⟩ := Option.bind_eq_some_iff.mp hwk4
            refine ⟨_, rfl, .inl ⟨rfl, _, SqL.of haf11⟩, _, rfl, af, _, _, rfl, rfl, haf11, (by rw [List.length_map]; exact small1000 (by omega)), ?_⟩
            have haf12 : upd H11 af (.lst (fs.map VT ++ [VT hr])) af = some (.lst ((fs ++ [hr]).map VT)) := by
              rw [upd_same, List.map_append]
              rfl
            have hm2 : atI ((fs ++ [hr]).map VT) (-2) = some (VT y) := by
              refine atI_m2 ?_ ?_
              · rw [List.length_map, List.length_append, hfl]
                show 2 ≤ i + 1 + 1
                omega
              · rw [List.length_map, List.getElem?_map, hy]
                rfl
            obtain ⟨oa, ga, na, sa⟩ := (ax11.upd (.lst (fs.map VT ++ [VT hr]))).look hr
            obtain ⟨ob, gb, nb, sb⟩ := (bx11.upd (.lst (fs.map VT ++ [VT hr]))).look hr
            refine ⟨_, rfl, _, rfl, da, oa, rfl, ga, _, rfl, ?_⟩
            cases hga : Mi.get a hr with
            | some l =>
              rw [hga] at hboth
              have hlb : l = both := Option.some.inj hboth
              subst hlb
              obtain ⟨r, e1, e2, hrb⟩ := sa l hga
              rw [e1] at ga
              rw [e1]
              refine ifT ⟨_, rfl, _, rfl, da, _, rfl, ga, ?_⟩
              have h0 : atI (l.map VT) 0 = some (VT x) := atI_nat (j := 0) (by rw [List.getElem?_map, hx]; rfl)
              refine ⟨_, rfl, r, _, 0, VT x, rfl, rfl, SqL.of hrb, h0, _, rfl, 2, rfl, af, _, _, VT y, rfl, rfl, SqL.of haf12, hm2, rfl, _, rfl, ?_⟩
              show if (!decide (VT x = VT y)) = true then _ else _
              rw [show decide (VT x = VT y) = decide (x = y) from dec_T _ _]
              cases hxy : decide (x = y) with
              | false =>
                rw [if_pos (of_decide_eq_false hxy)] at hwk5
                refine ifT ⟨_, rfl, r, _, 0, VT x, rfl, rfl, SqL.of hrb, h0, ?_⟩
                exact ⟨x, fs ++ [hr], _, _, rfl, same_updN s11 naf0, bx11.upd _, ax11.upd _, haf12, hwk5, by rw [List.length_append, hfl]; rfl⟩
              | true =>
                rw [if_neg (fun h => h (of_decide_eq_true hxy))] at hwk5
                obtain ⟨z, hz, hwk6⟩ := Option.bind_eq_some_iff.mp hwk5
                refine ifF ⟨_, rfl, r, _, 1, VT z, rfl, rfl, SqL.of hrb, atI_nat (j := 1) (by rw [List.getElem?_map, hz]; rfl), ?_⟩
                exact ⟨z, fs ++ [hr], _, _, rfl, same_updN s11 naf0, bx11.upd _, ax11.upd _, haf12, hwk6, by rw [List.length_append, hfl]; rfl⟩
            | none =>
              rw [hga] at hboth
              have hboth2 : Mi.get b hr = some both := hboth
              obtain ⟨r, e1, e2, hrb⟩ := sb both hboth2
              rw [e1] at gb
              rw [na hga]
              refine ifF ⟨_, rfl, _, rfl, db, _, rfl, gb, ?_⟩
              have h0 : atI (both.map VT) 0 = some (VT x) := atI_nat (j := 0) (by rw [List.getElem?_map, hx]; rfl)
              refine ⟨_, rfl, r, _, 0, VT x, rfl, rfl, SqL.of hrb, h0, _, rfl, 2, rfl, af, _, _, VT y, rfl, rfl, SqL.of haf12, hm2, rfl, _, rfl, ?_⟩
              show if (!decide (VT x = VT y)) = true then _ else _
              rw [show decide (VT x = VT y) = decide (x = y) from dec_T _ _]
              cases hxy : decide (x = y) with
              | false =>
                rw [if_pos (of_decide_eq_false hxy)] at hwk5
                refine ifT ⟨_, rfl, r, _, 0, VT x, rfl, rfl, SqL.of hrb, h0, ?_⟩
                exact ⟨x, fs ++ [hr], _, _, rfl, same_updN s11 naf0, bx11.upd _, ax11.upd _, haf12, hwk5, by rw [List.length_append, hfl]; rfl⟩
              | true =>
                rw [if_neg (fun h => h (of_decide_eq_true hxy))] at hwk5
                obtain ⟨z, hz, hwk6⟩ := Option.bind_eq_some_iff.mp hwk5
                refine ifF ⟨_, rfl, r, _, 1, VT z, rfl, rfl, SqL.of hrb, atI_nat (j := 1) (by rw [List.getElem?_map, hz]; rfl), ?_⟩
                exact ⟨z, fs ++ [hr], _, _, rfl, same_updN s11 naf0, bx11.upd _, ax11.upd _, haf12, hwk6, by rw [List.length_append, hfl]; rfl⟩
          · rintro σ H11 ⟨hr, fs, z17, z18, rfl, s11, bx11, ax11, haf11, hwk, hfl⟩
            rw [hn, Nat.sub_self] at hwk
            have hfs : fs = rs := Option.some.inj hwk
            rw [hfs] at haf11
            refine ⟨_, rfl, ?_⟩
            exact k _ af s11 naf0 haf11
end
end Ev
/-! Which state is lacking: the chain of the least states, and the least of the rows. -/
namespace Mi
def rowsM' : Nat → List W
  | 0 => [[]]
  | n + 1 => (rowsM' n).map (· ++ [48]) ++ (rowsM' n).map (· ++ [49])
def chainGo : Nat → W → List W
  | 0, _ => []
  | n + 1, s => s :: (match greaterM s with | none => [] | some t => chainGo n t)
def endsB : Nat → W → Bool
  | 0, _ => false
  | n + 1, s => match greaterM s with | none => true | some t => endsB n t
theorem lk_find {has : W → Prop} [DecidablePred has] : ∀ (n : Nat) {s : W} {r : Option W}, endsB n s = true → Lk has s r → r = (chainGo n s).find? fun c => !decide (has c)
  | 0, _, _, h, _ => nomatch h
  | n + 1, s, r, h, k => by
    unfold chainGo
    cases k with
    | out hn =>
      rw [List.find?_cons, decide_eq_false hn]
      rfl
    | last hs g =>
      rw [List.find?_cons, decide_eq_true hs, g]
      rfl
    | step hs g k =>
      unfold endsB at h
      rw [g] at h
      rw [List.find?_cons, decide_eq_true hs, g]
      exact lk_find n h k
theorem chain_ge : ∀ (n : Nat) {s c : W}, c ∈ chainGo n s → s = c ∨ s < c
  | 0, _, _, h => by cases h
  | n + 1, s, c, h => by
    unfold chainGo at h
    rcases List.mem_cons.mp h with e | h
    · exact .inl e.symm
    · cases g : greaterM s with
      | none => rw [g] at h; cases h
      | some t =>
        rw [g] at h
        have h1 := greaterM_lt g
        rcases chain_ge n h with e | h2
        · rw [← e]; exact .inr h1
        · exact .inr (List.lt_trans h1 h2)
theorem chain_asc : ∀ (n : Nat) (s : W), (chainGo n s).Pairwise (· < ·)
  | 0, _ => .nil
  | n + 1, s => by
    unfold chainGo
    refine .cons (fun c hc => ?_) ?_
    · cases g : greaterM s with
      | none => rw [g] at hc; cases hc
      | some t =>
        rw [g] at hc
        have h1 := greaterM_lt g
        rcases chain_ge n hc with e | h2
        · rw [← e]; exact h1
        · exact List.lt_trans h1 h2
    · cases g : greaterM s with
      | none => exact .nil
      | some t => exact chain_asc n t
theorem find_least {p : W → Bool} {c r : W} : ∀ {l : List W}, l.Pairwise (· < ·) → l.find? p = some c → r ∈ l → p r = true → ¬ r < c
  | [], _, _, h, _ => by cases h
  | x :: l, pw, hf, hr, hp => by
    rw [List.pairwise_cons] at pw
    rw [List.find?_cons] at hf
    cases hx : p x with
    | true =>
      rw [hx] at hf
      cases hf
      rcases List.mem_cons.mp hr with e | h
      · rw [e]; exact List.lt_irrefl _
      · exact fun z => List.lt_irrefl _ (List.lt_trans z (pw.1 _ h))
    | false =>
      rw [hx] at hf
      rcases List.mem_cons.mp hr with e | h
      · rw [e, hx] at hp; cases hp
      · exact find_least pw.2 hf h hp
theorem fold_min : ∀ (l : List W) (a : W), (l.foldl min2 a ∈ a :: l) ∧ ∀ y ∈ a :: l, ¬ y < l.foldl min2 a
  | [], a => ⟨List.mem_cons_self, fun y hy => by rw [List.mem_singleton.mp hy]; exact List.lt_irrefl _⟩
  | b :: l, a => by
    obtain ⟨h1, h2⟩ := fold_min l (min2 a b)
    show (l.foldl min2 (min2 a b) ∈ a :: b :: l) ∧ ∀ y ∈ a :: b :: l, ¬ y < l.foldl min2 (min2 a b)
    have hm := h2 _ List.mem_cons_self
    refine ⟨?_, fun y hy => ?_⟩
    · rcases List.mem_cons.mp h1 with e | h
      · rw [e]
        unfold min2
        split
        · exact List.mem_cons_of_mem _ List.mem_cons_self
        · exact List.mem_cons_self
      · exact List.mem_cons_of_mem _ (List.mem_cons_of_mem _ h)
    · rcases List.mem_cons.mp hy with e | hy
      · rw [e]
        intro z
        unfold min2 at hm z
        split at hm
        · rename_i hba
          rw [if_pos hba] at z
          exact hm (List.lt_trans hba z)
        · rename_i hba
          rw [if_neg hba] at z
          exact hm z
      · rcases List.mem_cons.mp hy with e | hy
        · rw [e]
          intro z
          unfold min2 at hm z
          split at hm
          · rename_i hba
            rw [if_pos hba] at z
            exact hm z
          · rename_i hba
            rw [if_neg hba] at z
            have h3 : a ≤ b := hba
            have h4 : ¬ a < b → a = b := fun q => List.le_antisymm h3 q
            by_cases q : a < b
            · exact hm (List.lt_trans q z)
            · exact hm (h4 q ▸ z)
        · exact h2 y (List.mem_cons_of_mem _ hy)
theorem minL_is {l : List W} {c : W} (hc : c ∈ l) (hm : ∀ r ∈ l, ¬ r < c) : minL l = c := by
  cases l with
  | nil => cases hc
  | cons a l =>
    obtain ⟨h1, h2⟩ := fold_min l a
    show l.foldl min2 a = c
    exact List.le_antisymm (h2 c hc) (hm _ h1)
def chkP (p : Nat) : Bool := endsB 300 (leastM [] (2 * p + 1)) && ((rowsM' (2 * p + 1)).all fun r => !isSt r || (chainGo 300 (leastM [] (2 * p + 1))).contains r) &&
  (chainGo 300 (leastM [] (2 * p + 1))).all fun c => isSt c && (rowsM' (2 * p + 1)).contains c
theorem chk1 : chkP 1 = true := by decide +kernel
theorem chk2 : chkP 2 = true := by decide +kernel
theorem chk3 : chkP 3 = true := by decide +kernel
theorem chk4 : chkP 4 = true := by decide +kernel
end Mi
namespace Mi
def unlikeF : W → W → Nat
  | x :: a, y :: b => (if x = y then 0 else 1) + unlikeF a b
  | _, _ => 0
theorem unlike_fast : ∀ {a b : W}, a.length = b.length → unlike a b = unlikeF a b
  | [], [], _ => rfl
  | x :: a, y :: b, h => by
    have ih := unlike_fast (a := a) (b := b) (by simpa using h)
    unfold unlike at ih ⊢
    rw [List.length_cons, List.range_succ_eq_map, List.filter_cons, List.filter_map]
    show _ = (if x = y then 0 else 1) + unlikeF a b
    rw [← ih]
    have e : ((fun i => !decide ((x :: a).getD i 0 = (y :: b).getD i 0)) ∘ Nat.succ) = fun i => !decide (a.getD i 0 = b.getD i 0) := by
      funext i
      rfl
    by_cases q : x = y
    · rw [if_pos q]
      have : (!decide ((x :: a).getD 0 0 = (y :: b).getD 0 0)) = false := by
        show (!decide (x = y)) = false
        rw [decide_eq_true q]; rfl
      rw [this]
      simp only [Bool.false_eq_true, if_false]
      rw [List.length_map, e]
      omega
    · rw [if_neg q]
      have : (!decide ((x :: a).getD 0 0 = (y :: b).getD 0 0)) = true := by
        show (!decide (x = y)) = true
        rw [decide_eq_false q]; rfl
      rw [this]
      simp only [if_true]
      rw [List.length_cons, List.length_map, e]
      omega
def a0 (m : Nat) : W := List.replicate m 48 ++ [48] ++ List.replicate m 49
def a1 (m : Nat) : W := List.replicate m 48 ++ List.replicate (m + 1) 49
def a2 (m : Nat) : W := List.replicate m 48 ++ [49, 48] ++ List.replicate (m - 1) 49
def a3 (m : Nat) : W := List.replicate m 48 ++ [49, 49, 48] ++ List.replicate (m - 2) 49
def chkM (m : Nat) : Bool := isSt (a0 m) && isSt (a1 m) && isSt (a2 m) && isSigns (a3 m) &&
  decide (unlikeF (a0 m) (a1 m) = 1) && decide (unlikeF (a1 m) (a0 m) = 1) && decide (unlikeF (a1 m) (a2 m) = 1) && decide (unlikeF (a2 m) (a1 m) = 1) &&
  decide (leastM [] (2 * m + 1) = a0 m) && decide (greaterM (a0 m) = some (a2 m)) && decide (greaterM (a2 m) = some (a3 m)) &&
  decide (a0 m ≠ a1 m) && decide (a0 m ≠ a2 m) && decide (a1 m ≠ a2 m) && decide (a3 m ≠ a0 m) && decide (a3 m ≠ a1 m) && decide (a3 m ≠ a2 m)
theorem chkM_1 : ((List.range 30).all fun k => chkM (k + 2)) = true := by decide +kernel
theorem chkM_2 : ((List.range 20).all fun k => chkM (k + 32)) = true := by decide +kernel
theorem chkM_3 : ((List.range 20).all fun k => chkM (k + 52)) = true := by decide +kernel
theorem chkM_4 : ((List.range 19).all fun k => chkM (k + 72)) = true := by decide +kernel
theorem chkM_all {m : Nat} (h1 : 2 ≤ m) (h2 : m ≤ 90) : chkM m = true := by
  have go : ∀ {n o : Nat}, ((List.range n).all fun k => chkM (k + o)) = true → o ≤ m → m < o + n → chkM m = true := fun {n o} h a b => by
    have := List.all_eq_true.mp h (m - o) (List.mem_range.mpr (by omega))
    rw [show m - o + o = m by omega] at this
    exact this
  rcases Nat.lt_or_ge m 32 with h | h
  · exact go chkM_1 (by omega) (by omega)
  · rcases Nat.lt_or_ge m 52 with h | h
    · exact go chkM_2 (by omega) (by omega)
    · rcases Nat.lt_or_ge m 72 with h | h
      · exact go chkM_3 (by omega) (by omega)
      · exact go chkM_4 (by omega) (by omega)
end Mi
namespace Ev
open PySem L2 PyProof.Rows
/-! ### the two judgements agree -/
theorem rows_same : ∀ n, Mi.rowsM' n = Mi.rowsM n
  | 0 => rfl
  | n + 1 => by
    show (Mi.rowsM' n).map _ ++ (Mi.rowsM' n).map _ = (Mi.rowsM n).map _ ++ (Mi.rowsM n).map _
    rw [rows_same n]
theorem vt_inj {a b : List Nat} (h : VT a = VT b) : a = b := by
  injection h with h
  exact T_inj.mp h
theorem chk_of {p : Nat} (h1 : 1 ≤ p) (h2 : p ≤ 4) : Mi.chkP p = true := by
  have : p = 1 ∨ p = 2 ∨ p = 3 ∨ p = 4 := by omega
  rcases this with rfl | rfl | rfl | rfl
  · exact Mi.chk1
  · exact Mi.chk2
  · exact Mi.chk3
  · exact Mi.chk4
theorem lk_due {xs : List V} {p : Nat} {r : Option (List Nat)} (h1 : 1 ≤ p) (h2 : p ≤ 4) (h : Mi.Lk (has xs) (Mi.leastM [] (2 * p + 1)) r) : r = if lackRows xs p ≠ [] then some (Mi.minL (lackRows xs p)) else none := by
  have hc := chk_of h1 h2
  unfold Mi.chkP at hc
  rw [Bool.and_eq_true, Bool.and_eq_true, rows_same] at hc
  obtain ⟨⟨c1, c2⟩, c3⟩ := hc
  have hdec : DecidablePred (has xs) := fun l => inferInstanceAs (Decidable (VT l ∈ xs))
  have e := Mi.lk_find 300 c1 h
  have asc := Mi.chain_asc 300 (Mi.leastM [] (2 * p + 1))
  have hin : ∀ l, l ∈ lackRows xs p ↔ l ∈ Mi.chainGo 300 (Mi.leastM [] (2 * p + 1)) ∧ ¬ VT l ∈ xs := fun l => by
    unfold lackRows
    rw [List.mem_filter]
    constructor
    · rintro ⟨m1, m2⟩
      rw [Bool.and_eq_true] at m2
      have q := List.all_eq_true.mp c2 l m1
      rw [m2.1] at q
      refine ⟨by simpa using q, ?_⟩
      simpa using m2.2
    · rintro ⟨m1, m2⟩
      have q := List.all_eq_true.mp c3 l m1
      rw [Bool.and_eq_true] at q
      refine ⟨by simpa using q.2, ?_⟩
      rw [q.1]
      simpa using m2
  cases hf : (Mi.chainGo 300 (Mi.leastM [] (2 * p + 1))).find? fun c => !decide (has xs c) with
  | none =>
    rw [hf] at e
    have : lackRows xs p = [] := by
      cases hl : lackRows xs p with
      | nil => rfl
      | cons y ys =>
        have hy : y ∈ lackRows xs p := by rw [hl]; exact List.mem_cons_self
        obtain ⟨y1, y2⟩ := (hin y).mp hy
        have := List.find?_eq_none.mp hf y y1
        exact absurd (show (!decide (has xs y)) = true by rw [decide_eq_false (show ¬ has xs y from y2)]; rfl) this
    rw [if_neg (fun z => z this)]
    exact e
  | some c =>
    rw [hf] at e
    have hc1 := List.mem_of_find?_eq_some hf
    have hc2 : (!decide (has xs c)) = true := by
      have := List.find?_some hf
      exact this
    have hc3 : ¬ VT c ∈ xs := by
      intro z
      rw [decide_eq_true (show has xs c from z)] at hc2
      cases hc2
    have hcl := (hin c).mpr ⟨hc1, hc3⟩
    have hne : lackRows xs p ≠ [] := fun z => by rw [z] at hcl; cases hcl
    rw [if_pos hne, Mi.minL_is hcl fun r hr => ?_]
    · exact e
    · obtain ⟨r1, r2⟩ := (hin r).mp hr
      exact Mi.find_least asc hf r1 (by rw [decide_eq_false (show ¬ has xs r from r2)]; rfl)
theorem jr_due {xs : List V} {d : Pd} {p : Nat} (h1 : 1 ≤ p) (h2 : p ≤ 4) (hw : ∃ l, VT l ∈ xs ∧ l.length = 2 * p + 1) (h : Jr xs d) : d = dueP xs p := by
  unfold Jr at h
  unfold dueP
  cases hj : judge xs with
  | some ik =>
    obtain ⟨i, k⟩ := ik
    rw [hj] at h
    exact h
  | none =>
    rw [hj] at h
    obtain ⟨l, hl, hll⟩ := hw
    have hne : xs ≠ [] := fun z => by rw [z] at hl; cases hl
    obtain ⟨l', e, _, hl'⟩ := allSt_of hj hne _ hl
    have : l = l' := vt_inj e
    subst this
    obtain ⟨r, hlk, hd⟩ := h
    rw [← hl', hll] at hlk
    have hr := lk_due h1 h2 hlk
    show d = if lackRows xs p ≠ [] then _ else _
    by_cases hn : lackRows xs p ≠ []
    · rw [if_pos hn] at hr ⊢
      rw [hr] at hd
      exact hd
    · rw [if_neg hn] at hr ⊢
      rw [hr] at hd
      exact hd
/-! ### the last part: least states of wider walks -/
theorem badAt_none {ws : List (List Nat)} {j : Nat} {w w0 : List Nat} (hw : ws[j]? = some w) (h0 : ws[0]? = some w0) (hs : Mi.isSt w = true) (hl : w.length = w0.length) (hu : 0 < j → ∃ v, ws[j - 1]? = some v ∧ Mi.unlike v w = 1) (hn : ¬ w ∈ ws.take j) : badAt (ws.map VT) j = none := by
  have gd : ∀ {i : Nat} {x : List Nat}, ws[i]? = some x → (ws.map VT).getD i .non = VT x := fun h => getD_of (by rw [List.getElem?_map, h]; rfl)
  unfold badAt
  rw [gd hw, gd h0]
  have c1 : ¬ (isStV (VT w) = false ∨ (txt (VT w)).length ≠ (txt (VT w0)).length) := by
    rintro (h | h)
    · rw [show isStV (VT w) = Mi.isSt w from rfl, hs] at h; cases h
    · exact h hl
  rw [if_neg c1]
  have c2 : ¬ (0 < j ∧ Mi.unlike (txt ((ws.map VT).getD (j - 1) .non)) (txt (VT w)) ≠ 1) := by
    rintro ⟨h, h'⟩
    obtain ⟨v, hv, hvu⟩ := hu h
    rw [gd hv] at h'
    exact h' hvu
  rw [if_neg c2]
  have c3 : ¬ VT w ∈ (ws.map VT).take j := by
    rw [← List.map_take]
    intro h
    obtain ⟨x, hx, e⟩ := List.mem_map.mp h
    exact hn (vt_inj e ▸ hx)
  rw [if_neg c3]
theorem has_map {ws : List (List Nat)} {l : List Nat} : has (ws.map VT) l ↔ l ∈ ws := by
  unfold has
  rw [List.mem_map]
  exact ⟨fun ⟨x, hx, e⟩ => vt_inj e ▸ hx, fun h => ⟨l, h, rfl⟩⟩
theorem lk_det {hs : List Nat → Prop} {s : List Nat} {r r' : Option (List Nat)} (h : Mi.Lk hs s r) : Mi.Lk hs s r' → r = r' := by
  induction h with
  | out h => intro k; cases k with
    | out _ => rfl
    | last h' _ => exact absurd h' h
    | step h' _ _ => exact absurd h' h
  | last h g => intro k; cases k with
    | out h' => exact absurd h h'
    | last _ _ => rfl
    | step _ g' _ => rw [g] at g'; cases g'
  | step h g _ ih => intro k; cases k with
    | out h' => exact absurd h h'
    | last _ g' => rw [g] at g'; cases g'
    | step _ g' k' => rw [g] at g'; cases g'; exact ih k'
theorem jr_lacks {ws : List (List Nat)} {d : Pd} {n : Nat} {c : List Nat} (hj : judge (ws.map VT) = none) (h0 : ∃ w0, ws[0]? = some w0 ∧ w0.length = n) (hk : Mi.Lk (has (ws.map VT)) (Mi.leastM [] n) (some c)) (h : Jr (ws.map VT) d) : d = .lacks c := by
  unfold Jr at h
  rw [hj] at h
  obtain ⟨w0, e0, hl0⟩ := h0
  obtain ⟨r, hlk, hd⟩ := h
  have e1 : (ws.map VT).getD 0 .non = VT w0 := getD_of (by rw [List.getElem?_map, e0]; rfl)
  rw [e1] at hlk
  have e2 : (txt (VT w0)).length = n := hl0
  rw [e2] at hlk
  rw [← lk_det hk hlk] at hd
  exact hd
structure Wide (m : Nat) : Prop where
  s0 : Mi.isSt (Mi.a0 m) = true
  s1 : Mi.isSt (Mi.a1 m) = true
  s2 : Mi.isSt (Mi.a2 m) = true
  s3 : Mi.isSigns (Mi.a3 m) = true
  u01 : Mi.unlike (Mi.a0 m) (Mi.a1 m) = 1
  u10 : Mi.unlike (Mi.a1 m) (Mi.a0 m) = 1
  u12 : Mi.unlike (Mi.a1 m) (Mi.a2 m) = 1
  u21 : Mi.unlike (Mi.a2 m) (Mi.a1 m) = 1
  le : Mi.leastM [] (2 * m + 1) = Mi.a0 m
  g0 : Mi.greaterM (Mi.a0 m) = some (Mi.a2 m)
  g2 : Mi.greaterM (Mi.a2 m) = some (Mi.a3 m)
  n01 : Mi.a0 m ≠ Mi.a1 m
  n02 : Mi.a0 m ≠ Mi.a2 m
  n12 : Mi.a1 m ≠ Mi.a2 m
  n30 : Mi.a3 m ≠ Mi.a0 m
  n31 : Mi.a3 m ≠ Mi.a1 m
  n32 : Mi.a3 m ≠ Mi.a2 m
theorem a_len {m : Nat} (h : 2 ≤ m) : (Mi.a0 m).length = 2 * m + 1 ∧ (Mi.a1 m).length = 2 * m + 1 ∧ (Mi.a2 m).length = 2 * m + 1 ∧ (Mi.a3 m).length = 2 * m + 1 := by
  unfold Mi.a0 Mi.a1 Mi.a2 Mi.a3
  simp only [List.length_append, List.length_replicate, List.length_cons, List.length_nil]
  omega
theorem wide_of {m : Nat} (h1 : 2 ≤ m) (h2 : m ≤ 90) : Wide m := by
  have h := Mi.chkM_all h1 h2
  obtain ⟨q0, q1, q2, q3⟩ := a_len h1
  unfold Mi.chkM at h
  simp only [Bool.and_eq_true, decide_eq_true_eq] at h
  obtain ⟨⟨⟨⟨⟨⟨⟨⟨⟨⟨⟨⟨⟨⟨⟨⟨s0, s1⟩, s2⟩, s3⟩, u01⟩, u10⟩, u12⟩, u21⟩, le⟩, g0⟩, g2⟩, n01⟩, n02⟩, n12⟩, n30⟩, n31⟩, n32⟩ := h
  exact ⟨s0, s1, s2, s3, by rw [Mi.unlike_fast (q0.trans q1.symm)]; exact u01, by rw [Mi.unlike_fast (q1.trans q0.symm)]; exact u10, by rw [Mi.unlike_fast (q1.trans q2.symm)]; exact u12, by rw [Mi.unlike_fast (q2.trans q1.symm)]; exact u21, le, g0, g2, n01, n02, n12, n30, n31, n32⟩
theorem last_1 {m : Nat} (h1 : 2 ≤ m) (W : Wide m) {d : Pd} (h : Jr ([Mi.a0 m].map VT) d) : d = .lacks (Mi.a2 m) := by
  obtain ⟨q0, q1, q2, q3⟩ := a_len h1
  refine jr_lacks (n := 2 * m + 1) (judge_none fun j hj => ?_) ⟨_, rfl, q0⟩ ?_ h
  · have : j = 0 := by simp at hj; omega
    subst this
    exact badAt_none rfl rfl W.s0 rfl (fun z => absurd z (by omega)) (by simp)
  · rw [W.le]
    exact .step (has_map.mpr (by simp)) W.g0 (.out fun z => by have := has_map.mp z; simp at this; exact W.n02 this.symm)
theorem last_2 {m : Nat} (h1 : 2 ≤ m) (W : Wide m) {d : Pd} (h : Jr ([Mi.a1 m, Mi.a0 m].map VT) d) : d = .lacks (Mi.a2 m) := by
  obtain ⟨q0, q1, q2, q3⟩ := a_len h1
  refine jr_lacks (n := 2 * m + 1) (judge_none fun j hj => ?_) ⟨_, rfl, q1⟩ ?_ h
  · have : j = 0 ∨ j = 1 := by simp at hj; omega
    rcases this with rfl | rfl
    · exact badAt_none rfl rfl W.s1 rfl (fun z => absurd z (by omega)) (by simp)
    · exact badAt_none rfl rfl W.s0 (q0.trans q1.symm) (fun z => ⟨_, rfl, W.u10⟩) (by simpa using W.n01)
  · rw [W.le]
    exact .step (has_map.mpr (by simp)) W.g0 (.out fun z => by have := has_map.mp z; simp at this; exact this.elim (fun e => W.n12 e.symm) fun e => W.n02 e.symm)
theorem last_3 {m : Nat} (h1 : 2 ≤ m) (W : Wide m) {d : Pd} (h : Jr ([Mi.a0 m, Mi.a1 m, Mi.a2 m].map VT) d) : d = .lacks (Mi.a3 m) := by
  obtain ⟨q0, q1, q2, q3⟩ := a_len h1
  refine jr_lacks (n := 2 * m + 1) (judge_none fun j hj => ?_) ⟨_, rfl, q0⟩ ?_ h
  · have : j = 0 ∨ j = 1 ∨ j = 2 := by simp at hj; omega
    rcases this with rfl | rfl | rfl
    · exact badAt_none rfl rfl W.s0 rfl (fun z => absurd z (by omega)) (by simp)
    · exact badAt_none rfl rfl W.s1 (q1.trans q0.symm) (fun z => ⟨_, rfl, W.u01⟩) (by simpa using W.n01.symm)
    · exact badAt_none rfl rfl W.s2 (q2.trans q0.symm) (fun z => ⟨_, rfl, W.u12⟩) (by simpa using ⟨W.n02.symm, W.n12.symm⟩)
  · rw [W.le]
    exact .step (has_map.mpr (by simp)) W.g0 (.step (has_map.mpr (by simp)) W.g2 (.out fun z => by have := has_map.mp z; simp at this; exact this.elim W.n30 fun e => e.elim W.n31 W.n32))
theorem last_4 {m : Nat} (h1 : 2 ≤ m) (W : Wide m) {d : Pd} (h : Jr ([Mi.a1 m, Mi.a2 m].map VT) d) : d = .lacks (Mi.a0 m) := by
  obtain ⟨q0, q1, q2, q3⟩ := a_len h1
  refine jr_lacks (n := 2 * m + 1) (judge_none fun j hj => ?_) ⟨_, rfl, q1⟩ ?_ h
  · have : j = 0 ∨ j = 1 := by simp at hj; omega
    rcases this with rfl | rfl
    · exact badAt_none rfl rfl W.s1 rfl (fun z => absurd z (by omega)) (by simp)
    · exact badAt_none rfl rfl W.s2 (q2.trans q1.symm) (fun z => ⟨_, rfl, W.u12⟩) (by simpa using W.n12.symm)
  · rw [W.le]
    exact .out fun z => by have := has_map.mp z; simp at this; exact this.elim W.n01 W.n02
theorem last_5 {m : Nat} (h1 : 2 ≤ m) (W : Wide m) {d : Pd} (h : Jr ([Mi.a2 m, Mi.a1 m].map VT) d) : d = .lacks (Mi.a0 m) := by
  obtain ⟨q0, q1, q2, q3⟩ := a_len h1
  refine jr_lacks (n := 2 * m + 1) (judge_none fun j hj => ?_) ⟨_, rfl, q2⟩ ?_ h
  · have : j = 0 ∨ j = 1 := by simp at hj; omega
    rcases this with rfl | rfl
    · exact badAt_none rfl rfl W.s2 rfl (fun z => absurd z (by omega)) (by simp)
    · exact badAt_none rfl rfl W.s1 (q1.trans q2.symm) (fun z => ⟨_, rfl, W.u21⟩) (by simpa using W.n12)
  · rw [W.le]
    exact .out fun z => by have := has_map.mp z; simp at this; exact this.elim W.n02 W.n01
end Ev
namespace Ev
open PySem PySem.Spec PyProof.Rows L2
section
variable {X : Cx} {CX : CXT} {k : Nat} {f : Addr} {fd : FuncData} {ps ks : List Str} {sp : Sp} {E : XK} {x : Str} {p pos : Pos} {kws : List Keyword} {tk : TA} {g : List Value → List Value → List Value} {gV : List V → List V → List V}
/-- f(k = v, ..) -/
theorem pe_callK0 (F : FnOk X.prog X.w X.K X.mg X.base CX k f fd ps sp) (hr : Room k X.A) (hg : Gl X x) (hm : X.mg x = some (.ref f)) (hk : PySem.W.keepIn X.K (.ref f) = true) (hb : KBinds X.K fd ps ks g gV) (hx : Passes CX X E)
    (hkw : PK X kws tk) (hall : (backToKw pos (keywordEach kws X.env)).all (·.1.isSome) = true := by rfl) (hks : (backToKw pos (keywordEach kws X.env)).filterMap (·.1) = ks := by rfl) (hdb : (x == ("__debug__" : Str)) = false := by decide)
    (hpl : ((backTo pos (starEach [] X.env)).any (·.1) || (backToKw pos (keywordEach kws X.env)).any (·.1.isNone)) = false := by rfl) :
    PE X (.Call (.Name x p) [] kws pos) (tCallK sp gV E tNil tk) := by
  refine ⟨fun pins s σ H Q I h => ?_⟩
  refine wpAny_Call_Name_kw (ld_glob I hg hm ?_ hdb)
  refine PySem.W.callWith_KW0 (h₀ := X.base) I.ok.mod.kin hk hall (thn (hkw.run pos pins s σ H _ I h) fun ws s2 ⟨zs, H2, I2, rz, q2⟩ => ⟨I2.kIn, ?_⟩) hpl
  rw [hks]
  exact run_fnk (us := []) (vs := []) F hr hb hx I2 .nil rz q2
end
/-! ### what is shown of a told paper -/
def Pd.toldD : Pd → List PyData
  | .whole n => [.str "whole", .int n]
  | .broken a y => [.str "broken", .int a, .str y]
  | .lacks st => [.str "lacks", .str (T st)]
theorem told_dp {K : PySem.W.Frag} {H : Hp} {q : Addr} (d : Pd) (h : H q = some (.tup d.told)) : Dp K H (.ref q) (.tuple d.toldD) := by
  refine .tup (SqT.of h) ?_
  cases d with
  | whole n => exact .cons (.str _) (.cons (.int n) .nil)
  | broken a y => exact .cons (.str _) (.cons (.int a) (.cons (.str y) .nil))
  | lacks s => exact .cons (.str _) (.cons (.str _) .nil)
theorem told_showable {d : Pd} (h : d.ok) : (PyData.tuple d.toldD).showable = true := by
  cases d with
  | whole n =>
    have h' : 0 ≤ n ∧ n ≤ 100000 := h
    show (true && (decide (n.natAbs.log2 < 1920) && true)) = true
    rw [decide_eq_true (small_log (by omega))]
    rfl
  | broken a y =>
    have h' : 0 ≤ a ∧ a ≤ 100000 ∧ _ := h
    show (true && (decide (a.natAbs.log2 < 1920) && (true && true))) = true
    rw [decide_eq_true (small_log (by omega))]
    rfl
  | lacks s => rfl
theorem told_dict (d : Pd) : (PyData.tuple d.toldD).hasDict = false := by cases d <;> rfl
theorem told_depth (d : Pd) : (PyData.tuple d.toldD).depth ≤ 1 := by
  cases d with
  | whole n => exact Nat.le_refl 1
  | broken a y => exact Nat.le_refl 1
  | lacks s => exact Nat.le_refl 1
theorem ok_str {x : Str} (h : ∀ c ∈ x.cps.toList, c < 16 ^ 8) (hl : x.length ≤ 400) : (reprText x).length ≤ 4002 := by
  have := StrLaws.reprText_len x h
  omega
theorem int_len {i : Int} (h0 : 0 ≤ i) (h : i ≤ 100000) : (PyData.int i).shown.length ≤ 1921 := by
  show (Str.ofString (toString i)).length ≤ _
  have := PySem.int_text_length_le (a := i) (k := 1920) (by decide) (small_log (by omega))
  rw [PySem.ofString_length]
  exact this
theorem piled_up : ∀ (ts : List Str) (m : Nat), (∀ t ∈ ts, t.length ≤ m) → (Str.join (Str.ofString ", ") ts).length ≤ (m + 2) * ts.length
  | [], m, _ => by show (Str.empty).length ≤ _; exact Nat.zero_le _
  | [x], m, h => by
    have := h x List.mem_cons_self
    show x.length ≤ (m + 2) * 1
    omega
  | x :: y :: r, m, h => by
    have h1 := piled_up (y :: r) m (fun t ht => h t (List.mem_cons_of_mem _ ht))
    have h2 := h x List.mem_cons_self
    show (x ++ Str.ofString ", " ++ Str.join (Str.ofString ", ") (y :: r)).length ≤ _
    rw [len_app, len_app, show (Str.ofString ", ").length = 2 by decide +kernel]
    rw [List.length_cons, Nat.mul_succ]
    omega
theorem tupleText_up {ts : List Str} {m : Nat} (h : ∀ t ∈ ts, t.length ≤ m) : (tupleText ts).length ≤ (m + 2) * ts.length + 3 := by
  unfold tupleText
  rw [len_app, len_app]
  have h1 := piled_up ts m h
  have h2 : (Str.ofString "(").length = 1 := by decide +kernel
  have h3 : (Str.ofString (if ts.length == 1 then ",)" else ")")).length ≤ 2 := by
    split
    · exact (by decide +kernel : (Str.ofString ",)").length ≤ 2)
    · exact (by decide +kernel : (Str.ofString ")").length ≤ 2)
  omega
theorem str_len {l : List Nat} (h : Mi.isSigns l = true) (hl : l.length ≤ 1000) : (PyData.str (T l)).shown.length ≤ 10002 := by
  have := reprT_len h
  show (reprText (T l)).length ≤ _
  omega
theorem lit_len {x : Str} (h : decide ((reprText x).length ≤ 20) = true) : (PyData.str x).shown.length ≤ 20 := of_decide_eq_true h
theorem why_lit {y : Str} (h : y = "state" ∨ y = "switch" ∨ y = "again") : (PyData.str y).shown.length ≤ 20 := by
  rcases h with rfl | rfl | rfl
  · exact lit_len (by decide +kernel)
  · exact lit_len (by decide +kernel)
  · exact lit_len (by decide +kernel)
theorem told_len {d : Pd} (h : d.ok) : (PyData.tuple d.toldD).shown.length ≤ 40000 := by
  have key : ∀ ds : List PyData, (∀ x ∈ ds, x.shown.length ≤ 10002) → ∀ t ∈ PyData.shownAll ds, t.length ≤ 10002 := by
    intro ds
    induction ds with
    | nil => intro _ t ht; cases ht
    | cons x r ih =>
      intro hx t ht
      have ht' : t ∈ x.shown :: PyData.shownAll r := ht
      rcases List.mem_cons.mp ht' with rfl | ht'
      · exact hx x List.mem_cons_self
      · exact ih (fun y hy => hx y (List.mem_cons_of_mem _ hy)) t ht'
  have kl : ∀ ds : List PyData, (PyData.shownAll ds).length = ds.length := by
    intro ds
    induction ds with
    | nil => rfl
    | cons x r ih => show (x.shown :: PyData.shownAll r).length = _; rw [List.length_cons, List.length_cons, ih]
  have up : ∀ ds : List PyData, ds.length ≤ 3 → (∀ x ∈ ds, x.shown.length ≤ 10002) → (PyData.tuple ds).shown.length ≤ 40000 := by
    intro ds hl hx
    have := tupleText_up (key ds hx)
    rw [kl] at this
    show (tupleText (PyData.shownAll ds)).length ≤ _
    have : 10004 * ds.length ≤ 10004 * 3 := Nat.mul_le_mul_left _ hl
    omega
  refine up _ (by cases d <;> first | exact Nat.le_refl 3 | exact (by decide : 2 ≤ 3)) fun x hx => ?_
  cases d with
  | whole n =>
    have h' : 0 ≤ n ∧ n ≤ 100000 := h
    have hx' : x ∈ [PyData.str "whole", .int n] := hx
    simp only [List.mem_cons, List.not_mem_nil, or_false] at hx'
    rcases hx' with rfl | rfl
    · exact Nat.le_trans (lit_len (by decide +kernel)) (by decide)
    · exact Nat.le_trans (int_len h'.1 h'.2) (by decide)
  | broken a y =>
    have h' : 0 ≤ a ∧ a ≤ 100000 ∧ (y = "state" ∨ y = "switch" ∨ y = "again") := h
    have hx' : x ∈ [PyData.str "broken", .int a, .str y] := hx
    simp only [List.mem_cons, List.not_mem_nil, or_false] at hx'
    rcases hx' with rfl | rfl | rfl
    · exact Nat.le_trans (lit_len (by decide +kernel)) (by decide)
    · exact Nat.le_trans (int_len h'.1 h'.2.1) (by decide)
    · exact Nat.le_trans (why_lit h'.2.2) (by decide)
  | lacks s =>
    have h' : Mi.isSigns s = true ∧ s.length ≤ 1000 := h
    have hx' : x ∈ [PyData.str "lacks", .str (T s)] := hx
    simp only [List.mem_cons, List.not_mem_nil, or_false] at hx'
    rcases hx' with rfl | rfl
    · exact Nat.le_trans (lit_len (by decide +kernel)) (by decide)
    · exact str_len h'.1 h'.2
/-! ### two told papers show apart -/
theorem show2 {x y : PyData} : (PyData.tuple [x, y]).shown = Str.ofString "(" ++ (x.shown ++ Str.ofString ", " ++ y.shown) ++ Str.ofString ")" := rfl
theorem show3 {x y z : PyData} : (PyData.tuple [x, y, z]).shown = Str.ofString "(" ++ (x.shown ++ Str.ofString ", " ++ (y.shown ++ Str.ofString ", " ++ z.shown)) ++ Str.ofString ")" := rfl
theorem r_whole : reprText "whole" = T [39, 119, 104, 111, 108, 101, 39] := by decide +kernel
theorem r_broken : reprText "broken" = T [39, 98, 114, 111, 107, 101, 110, 39] := by decide +kernel
theorem r_lacks : reprText "lacks" = T [39, 108, 97, 99, 107, 115, 39] := by decide +kernel
theorem r_state : reprText "state" = T [39, 115, 116, 97, 116, 101, 39] := by decide +kernel
theorem r_switch : reprText "switch" = T [39, 115, 119, 105, 116, 99, 104, 39] := by decide +kernel
theorem r_again : reprText "again" = T [39, 97, 103, 97, 105, 110, 39] := by decide +kernel
theorem s_op : Str.ofString "(" = T [40] := by decide +kernel
theorem s_cl : Str.ofString ")" = T [41] := by decide +kernel
theorem s_co : Str.ofString ", " = T [44, 32] := by decide +kernel
def dg (i : Int) : List Nat := (Str.ofString (toString i)).cps.toList
theorem show_whole (n : Int) : (PyData.tuple (Pd.whole n).toldD).shown = T (40 :: 39 :: 119 :: ([104, 111, 108, 101, 39, 44, 32] ++ dg n ++ [41])) := by
  show (PyData.tuple [.str "whole", .int n]).shown = _
  rw [show2]
  show Str.ofString "(" ++ (reprText "whole" ++ Str.ofString ", " ++ Str.ofString (toString n)) ++ Str.ofString ")" = _
  rw [s_op, s_cl, s_co, r_whole, T_eq (Str.ofString (toString n)), T_app, T_app, T_app, T_app]
  rfl
theorem show_broken (a : Int) {y : Str} {l : List Nat} (h : reprText y = T l) : (PyData.tuple (Pd.broken a y).toldD).shown = T (40 :: 39 :: 98 :: ([114, 111, 107, 101, 110, 39, 44, 32] ++ (dg a ++ (44 :: 32 :: l ++ [41])))) := by
  show (PyData.tuple [.str "broken", .int a, .str y]).shown = _
  rw [show3]
  show Str.ofString "(" ++ (reprText "broken" ++ Str.ofString ", " ++ (Str.ofString (toString a) ++ Str.ofString ", " ++ reprText y)) ++ Str.ofString ")" = _
  rw [s_op, s_cl, s_co, r_broken, h, T_eq (Str.ofString (toString a)), T_app, T_app, T_app, T_app, T_app, T_app]
  congr 1
  show _ = 40 :: 39 :: 98 :: ([114, 111, 107, 101, 110, 39, 44, 32] ++ (dg a ++ ([44, 32] ++ l ++ [41])))
  unfold dg
  simp
theorem show_lacks (s : List Nat) : ∃ t, (PyData.tuple (Pd.lacks s).toldD).shown = T (40 :: 39 :: 108 :: t) := by
  refine ⟨[97, 99, 107, 115, 39, 44, 32] ++ (reprText (T s)).cps.toList ++ [41], ?_⟩
  show (PyData.tuple [.str "lacks", .str (T s)]).shown = _
  rw [show2]
  show Str.ofString "(" ++ (reprText "lacks" ++ Str.ofString ", " ++ reprText (T s)) ++ Str.ofString ")" = _
  rw [s_op, s_cl, s_co, r_lacks, T_eq (reprText (T s)), T_app, T_app, T_app, T_app]
  rfl
theorem dg_zero {a : Int} (h0 : 0 ≤ a) (h1 : a ≤ 700) (h : dg a = dg 0) : a = 0 := by
  have all : ((List.range 701).all fun k => decide (dg (k : Nat) = dg 0 → k = 0)) = true := by decide +kernel
  have := List.all_eq_true.mp all a.toNat (List.mem_range.mpr (by omega))
  have e : ((a.toNat : Nat) : Int) = a := by omega
  have k := of_decide_eq_true this
  rw [e] at k
  have := k h
  omega
theorem why_list {y : Str} (h : y = "state" ∨ y = "switch" ∨ y = "again") : ∃ l, reprText y = T l := ⟨_, T_eq _⟩
/-- what is shown of D tells whether it is the paper e -/
theorem shown_whole {d : Pd} {n : Int} (hn : ∀ m, d = .whole m → m = n) : decide ((PyData.tuple d.toldD).shown = (PyData.tuple (Pd.whole n).toldD).shown) = (Pd.whole n).eqb d := by
  cases d with
  | whole m =>
    have := hn m rfl
    subst this
    rw [decide_eq_true rfl]
    exact (decide_eq_true rfl).symm
  | broken a y =>
    refine decide_eq_false fun e => ?_
    rw [show_whole, show_broken a (T_eq _)] at e
    have : some 98 = some 119 := congrArg (·[2]?) (T_inj.mp e)
    exact absurd this (by decide)
  | lacks s =>
    refine decide_eq_false fun e => ?_
    obtain ⟨t, ht⟩ := show_lacks s
    rw [show_whole, ht] at e
    have : some 108 = some 119 := congrArg (·[2]?) (T_inj.mp e)
    exact absurd this (by decide)
theorem shown_switch {d : Pd} (h : d.ok) (hs : ∀ a y, d = .broken a y → a ≤ 700) : decide ((PyData.tuple d.toldD).shown = (PyData.tuple (Pd.broken 0 "switch").toldD).shown) = (Pd.broken 0 "switch").eqb d := by
  cases d with
  | whole m =>
    refine decide_eq_false fun e => ?_
    rw [show_whole, show_broken 0 r_switch] at e
    have : some 119 = some 98 := congrArg (·[2]?) (T_inj.mp e)
    exact absurd this (by decide)
  | lacks s =>
    refine decide_eq_false fun e => ?_
    obtain ⟨t, ht⟩ := show_lacks s
    rw [show_broken 0 r_switch, ht] at e
    have : some 108 = some 98 := congrArg (·[2]?) (T_inj.mp e)
    exact absurd this (by decide)
  | broken a y =>
    have h' : 0 ≤ a ∧ a ≤ 100000 ∧ (y = "state" ∨ y = "switch" ∨ y = "again") := h
    have h7 := hs a y rfl
    have bad : ∀ (l : List Nat), reprText y = T l → ((44 :: 32 :: l ++ [41]).reverse)[2]? ≠ some 104 → 3 ≤ l.length → decide ((PyData.tuple (Pd.broken a y).toldD).shown = (PyData.tuple (Pd.broken 0 "switch").toldD).shown) = false := by
      intro l hl hne h3
      refine decide_eq_false fun e => ?_
      rw [show_broken a hl, show_broken 0 r_switch] at e
      have e1 := T_inj.mp e
      injection e1 with _ e1
      injection e1 with _ e1
      injection e1 with _ e1
      have e2 := List.append_cancel_left e1
      have e3 := congrArg (fun z => z.reverse[2]?) e2
      have e4 : ((dg a ++ (44 :: 32 :: l ++ [41])).reverse)[2]? = ((44 :: 32 :: l ++ [41]).reverse)[2]? := by
        rw [List.reverse_append, List.getElem?_append_left]
        simp
      have e5 : ((dg 0 ++ (44 :: 32 :: [39, 115, 119, 105, 116, 99, 104, 39] ++ [41])).reverse)[2]? = some 104 := by
        rw [List.reverse_append, List.getElem?_append_left]
        · rfl
        · decide
      exact hne (e4.symm.trans (e3.trans e5))
    show _ = (decide (0 = a) && decide (("switch" : Str) = y))
    rcases h'.2.2 with rfl | rfl | rfl
    · rw [bad _ r_state (by decide) (by decide)]
      rw [decide_eq_false (show ¬ ("switch" : Str) = "state" by decide +kernel), Bool.and_false]
    · rw [decide_eq_true (show ("switch" : Str) = "switch" from rfl), Bool.and_true]
      by_cases ha : a = 0
      · subst ha
        exact (decide_eq_true rfl).trans (decide_eq_true rfl).symm
      · rw [decide_eq_false (show ¬ 0 = a from fun e => ha e.symm)]
        refine decide_eq_false fun e => ha ?_
        rw [show_broken a r_switch, show_broken 0 r_switch] at e
        have e1 := T_inj.mp e
        injection e1 with _ e1
        injection e1 with _ e1
        injection e1 with _ e1
        have e2 := List.append_cancel_left e1
        exact dg_zero h'.1 h7 (List.append_cancel_right e2)
    · rw [bad _ r_again (by decide) (by decide)]
      rw [decide_eq_false (show ¬ ("switch" : Str) = "again" by decide +kernel), Bool.and_false]
end Ev
namespace Ev
open PySem PySem.Spec PyProof.Rows L2
/-! ### lists of told papers -/
inductive Tls (H : Hp) : List V → List Pd → Prop where
  | nil : Tls H [] []
  | cons {q : Addr} {d : Pd} {vs : List V} {ds : List Pd} : H q = some (.tup d.told) → Tls H vs ds → Tls H (.ref q :: vs) (d :: ds)
theorem Tls.same {H H' : Hp} (s : Same H H') : ∀ {vs : List V} {ds : List Pd}, Tls H vs ds → Tls H' vs ds
  | _, _, .nil => .nil
  | _, _, .cons h r => .cons (s _ _ h) (r.same s)
theorem Tls.snoc {H : Hp} {q : Addr} {d : Pd} : ∀ {vs : List V} {ds : List Pd}, Tls H vs ds → H q = some (.tup d.told) → Tls H (vs ++ [.ref q]) (ds ++ [d])
  | _, _, .nil, h => .cons h .nil
  | _, _, .cons h r, k => .cons h (r.snoc k)
theorem Tls.len {H : Hp} : ∀ {vs : List V} {ds : List Pd}, Tls H vs ds → vs.length = ds.length
  | _, _, .nil => rfl
  | _, _, .cons _ r => by rw [List.length_cons, List.length_cons, r.len]
def tD (ds : List Pd) : List PyData := ds.map fun d => .tuple d.toldD
theorem Tls.dp {K : PySem.W.Frag} {H : Hp} : ∀ {vs : List V} {ds : List Pd}, Tls H vs ds → DpAll K H vs (tD ds)
  | _, _, .nil => .nil
  | _, _, .cons h r => .cons (told_dp _ h) r.dp
theorem tD_show : ∀ {ds : List Pd}, (∀ d ∈ ds, d.ok) → PyData.showableAll (tD ds) = true
  | [], _ => rfl
  | d :: ds, h => by
    show ((PyData.tuple d.toldD).showable && PyData.showableAll (tD ds)) = true
    rw [told_showable (h d List.mem_cons_self), tD_show fun x hx => h x (List.mem_cons_of_mem _ hx)]
    rfl
theorem tD_dict : ∀ (ds : List Pd), PyData.hasDictAll (tD ds) = false
  | [] => rfl
  | d :: ds => by
    show ((PyData.tuple d.toldD).hasDict || PyData.hasDictAll (tD ds)) = false
    rw [told_dict, tD_dict ds]
    rfl
theorem tD_depth : ∀ (ds : List Pd), PyData.depthAll (tD ds) ≤ 1
  | [] => Nat.zero_le _
  | d :: ds => by
    show max (PyData.tuple d.toldD).depth (PyData.depthAll (tD ds)) ≤ 1
    have h1 := told_depth d
    have h2 := tD_depth ds
    omega
theorem tD_len : ∀ {ds : List Pd}, (∀ d ∈ ds, d.ok) → ∀ t ∈ PyData.shownAll (tD ds), t.length ≤ 40000
  | [], _, t, ht => by cases ht
  | d :: ds, h, t, ht => by
    have ht' : t ∈ (PyData.tuple d.toldD).shown :: PyData.shownAll (tD ds) := ht
    rcases List.mem_cons.mp ht' with rfl | ht'
    · exact told_len (h d List.mem_cons_self)
    · exact tD_len (fun x hx => h x (List.mem_cons_of_mem _ hx)) t ht'
theorem shownAll_len : ∀ (ds : List PyData), (PyData.shownAll ds).length = ds.length
  | [] => rfl
  | x :: r => by show (x.shown :: PyData.shownAll r).length = _; rw [List.length_cons, List.length_cons, shownAll_len r]
theorem list_line {ds : List PyData} {m n : Nat} (h : ∀ t ∈ PyData.shownAll ds, t.length ≤ m) (hl : ds.length ≤ n) (hs : (m + 2) * n + 2 ≤ sizeLine) : (PyData.list ds).shown.length ≤ sizeLine := by
  have h1 := listText_up h
  rw [shownAll_len] at h1
  show (listText (PyData.shownAll ds)).length ≤ _
  have : (m + 2) * ds.length ≤ (m + 2) * n := Nat.mul_le_mul_left _ hl
  omega
section
variable {P : Program} {w : World} {K : PySem.W.Frag} {mg : Str → Option Value} {base : Heap}
abbrev XL (P : Program) (w : World) (K : PySem.W.Frag) (mg : Str → Option Value) (base : Heap) (f : Addr) (cdv : Value) (A : Around) (outer : List Env) (s : Shared) (H : Hp) : Cx := (cxOf CX0 P w K mg base nLaw "law" (defScope sLaw) f cdv A outer s H E0).nox
def pickTE (ta : TE) : TE := tCall spPick [] E0 (tCons (tVar 1) (tCons ta tNil))
/-- what the law calls -/
structure Lw (P : Program) (w : World) (K : PySem.W.Frag) (mg : Str → Option Value) (base : Heap) (c : Cs) : Prop where
  bl : Bl mg
  wn : Wn P w K mg base c
  mw : mg "Whole" = some (.ref c.cw)
  mb : mg "Broken" = some (.ref c.cb)
  gw : Gd K c.cw
  gb : Gd K c.cb
  heap : ∃ f fd, FnOk P w K mg base CX0 1 f fd ["_law_script"] (spHeap K) ∧ PySem.W.keepIn K (.ref f) = true ∧ Binds K fd ["_law_script"] [] ∧ mg "_law_heap" = some (.ref f)
  pick : ∃ f fd, FnOk P w K mg base CX0 1 f fd ["_law_heap_here", "_law_many"] spPick ∧ PySem.W.keepIn K (.ref f) = true ∧ Binds K fd ["_law_heap_here", "_law_many"] [] ∧ mg "_law_pick" = some (.ref f)
  round : ∃ f fd, FnOk P w K mg base CX0 3 f fd ["_law_pairs"] spRound ∧ PySem.W.keepIn K (.ref f) = true ∧ Binds K fd ["_law_pairs"] [] ∧ mg "_law_states_round" = some (.ref f)
  bent : ∃ f fd, FnOk P w K mg base CX0 2 f fd ["_law_heap_here", "_law_states"] spBent ∧ PySem.W.keepIn K (.ref f) = true ∧ Binds K fd ["_law_heap_here", "_law_states"] [] ∧ mg "_law_bent_back" = some (.ref f)
  spoilt : ∃ f fd, FnOk P w K mg base CX0 2 f fd ["_law_heap_here", "_law_states"] spSpoilt ∧ PySem.W.keepIn K (.ref f) = true ∧ Binds K fd ["_law_heap_here", "_law_states"] [] ∧ mg "_law_spoilt" = some (.ref f)
  due : ∃ f fd, FnOk P w K mg base CX0 3 f fd ["_law_states", "_law_pairs"] spDue ∧ PySem.W.keepIn K (.ref f) = true ∧ Binds K fd ["_law_states", "_law_pairs"] [] ∧ mg "_law_round_due" = some (.ref f)
  told : ∃ f fd, FnOk P w K mg base CX0 4 f fd ["_law_paper"] (spTold c) ∧ PySem.W.keepIn K (.ref f) = true ∧ Binds K fd ["_law_paper"] [] ∧ mg "_law_told" = some (.ref f)
  judged : ∃ f fd, FnOk P w K mg base CX0 8 f fd ["states"] (spJr c) ∧ PySem.W.keepIn K (.ref f) = true ∧ Binds K fd ["states"] [] ∧ KBinds K fd ["states"] ["states"] (fun us ws => us ++ ws) (fun us ws => us ++ ws) ∧ mg "judged_round" = some (.ref f)
  shows : ∃ f fd, FnOk P w K mg base CX0 8 f fd ["states", "value"] (spShows c) ∧ PySem.W.keepIn K (.ref f) = true ∧ Binds K fd ["states", "value"] [] ∧ mg "shows_round" = some (.ref f)
theorem s_10 : Str.ofString "10" = T [49, 48] := by decide +kernel
theorem jr_use {c : Cs} {H2 : Hp} {ls : List (List Nat)} {xs : List V} {p : Addr} {Q : VK} (e : xs = ls.map VT) (hne : ls ≠ []) (hl : ls.length ≤ 4) (hs : ∀ l ∈ ls, l.length ≤ 400 ∧ Mi.isSigns l = true) (n : H2 p = none)
    (k : ∀ H' v d, Same H2 H' → Jr (ls.map VT) d → IsP c H' v d → Q v H') : spJr c [.ref p] (upd H2 p (.lst xs)) Q E0 := by
  subst e
  refine ⟨p, _, _, rfl, upd_same, .inl rfl, fun z => hne (List.map_eq_nil_iff.mp z), fun x hx => ?_, by rw [List.length_map]; omega, fun H' v d s' j i => k H' v d (same_tr (same_upd (Same.refl H2) n) s') j i⟩
  obtain ⟨l, hl', rfl⟩ := List.mem_map.mp hx
  exact .str l (Nat.le_trans (hs l hl').1 (by decide)) (hs l hl').2
/-- the last part of the law -/
theorem law_last {c : Cs} (G : Lw P w K mg base c) {f : Addr} {cdv : Value} {A : Around} {outer : List Env} {s : Shared} {H : Hp} (hr : Room 8 (A.deeper (envOfC "law" (defScope sLaw) s.heap.objs.size f cdv))) (hgd : A.guards = some []) :
    ∃ t, PSs (XL P w K mg base f cdv A outer s H) ((defBody sLaw).drop 14) t ∧
      ∀ (D : Ends) (h L : Addr) (cells : List Int) (at_ rest : Int) (o0 o2 o3 o4 o5 o6 o7 o8 o9 o10 o11 o12 o13 o14 : Option V) (H1 : Hp), Hpk H1 h L cells at_ rest → at_ ≤ 999000 → (∀ H2, D.rt (.bl true) H2) →
        t D [o0, some (.ref h), o2, o3, o4, o5, o6, o7, o8, o9, o10, o11, o12, o13, o14] H1 := by
  obtain ⟨fP, fdP, GP, kP, bP, gP⟩ := G.pick
  obtain ⟨fT, fdT, GT, kT, bT, gT⟩ := G.told
  obtain ⟨fJ, fdJ, GJ, kJ, bJ, _, gJ⟩ := G.judged
  have B := G.bl
  refine ⟨_, pss_cons (ps_set (i := 9) scLaw.nd rfl (Or.inl rfl) (pe_op op_add pe_int (pe_call GP (hr.mono (by decide)) (by rfl) gP kP bP .nil pass0 (pa_cons (pv 1) (pa_cons pe_int pa_nil)))))
    (pss_cons (ps_set (i := 10) scLaw.nd rfl (Or.inl rfl) (pe_op op_mulT pe_str (pv 9)))
    (pss_cons (ps_set (i := 11) scLaw.nd rfl (Or.inr rfl) (pe_lst (pa_cons (pe_op op_add_str (pe_op op_add_str (pv 10) pe_str) (pe_op op_mulT pe_str (pv 9)))
      (pa_cons (pe_op op_add_str (pv 10) (pe_op op_mulT pe_str (pe_op op_add (pv 9) pe_int)))
      (pa_cons (pe_op op_add_str (pe_op op_add_str (pv 10) pe_str) (pe_op op_mulT pe_str (pe_op op_sub (pv 9) pe_int)))
      (pa_cons (pe_op op_add_str (pe_op op_add_str (pv 10) pe_str) (pe_op op_mulT pe_str (pe_op op_sub (pv 9) pe_int))) pa_nil))))))
    (pss_cons (ps_set (i := 12) scLaw.nd rfl (Or.inl rfl) (pe_lst
      (pa_cons (pe_call GJ hr (by rfl) gJ kJ bJ .nil pass0 (pa_cons (pe_slice sl_list (pv 11) po_none (po_some pe_int)) pa_nil))
      (pa_cons (pe_call GJ hr (by rfl) gJ kJ bJ .nil pass0 (pa_cons (pe_back (pv 11) (po_some pe_int) po_none) pa_nil))
      (pa_cons (pe_call GJ hr (by rfl) gJ kJ bJ .nil pass0 (pa_cons (pe_slice sl_list (pv 11) po_none (po_some pe_int)) pa_nil))
      (pa_cons (pe_call GJ hr (by rfl) gJ kJ bJ .nil pass0 (pa_cons (pe_slice sl_list (pv 11) (po_some pe_int) (po_some pe_int)) pa_nil))
      (pa_cons (pe_call GJ hr (by rfl) gJ kJ bJ .nil pass0 (pa_cons (pe_back (pv 11) (po_some pe_int) (po_some pe_int)) pa_nil)) pa_nil)))))))
    (pss_one (ps_ret (pe_cmpR op_eq
      (pe_callB (call_reprD hgd (room64 hr)) (by rfl) B.repr PyProof.Rows.boot_repr (pa_cons (pe_lc (own := [("_law_paper", 13)]) (g := gName 13) (tt := tYes) rfl scLaw.nd (pi_seq (pv 12)) (blkOk_by (own := [("_law_paper", 13)]) (N := nLaw) (sc := defScope sLaw) (by decide +kernel))
        (fun _ _ _ _ _ => pg_name (i := 13) scLaw.nd rfl (Or.inl rfl)) (fun _ _ _ _ _ => pts_nil) (fun _ _ _ _ _ => pe_call GT (hr.mono (by decide)) (by rfl) gT kT bT .nil pass0 (pa_cons (pv 13) pa_nil))) pa_nil))
      (pe_callB (call_reprD hgd (room64 hr)) (by rfl) B.repr PyProof.Rows.boot_repr (pa_cons (pe_lc (own := [("_law_at", 14)]) (g := gName 14) (tt := tYes) (te := tTup (tCons (tC (.str "lacks")) (tCons (tOp (rIxL K) (tVar 11) (tVar 14)) tNil))) rfl scLaw.nd
        (pi_seq (pe_lst (pa_cons pe_int (pa_cons pe_int (pa_cons pe_int (pa_cons pe_int (pa_cons pe_int pa_nil))))))) (blkOk_by (own := [("_law_at", 14)]) (N := nLaw) (sc := defScope sLaw) (by decide +kernel))
        (fun _ _ _ _ _ => pg_name (i := 14) scLaw.nd rfl (Or.inl rfl)) (fun _ _ _ _ _ => pts_nil) (fun _ _ _ _ _ => pe_tup (pa_cons pe_str (pa_cons (pe_ix ix_list (pv 11) (pv 14) (fun _ _ => rfl)) pa_nil)))) pa_nil)) (nomark _))))))), ?_⟩
  intro D h L cells at_ rest o0 o2 o3 o4 o5 o6 o7 o8 o9 o10 o11 o12 o13 o14 H1 hp hat hD
  refine ⟨_, rfl, h, L, cells, at_, rest, 89, rfl, hp, by omega, by omega, by omega, fun H2 r a2 r2 b2 p2 l2 w1 w2 => ⟨_, _, rfl, rfl, ?_⟩⟩
  obtain ⟨m, hm⟩ : ∃ m : Nat, 2 + r = m := ⟨(2 + r).toNat, by omega⟩
  have m1 : 2 ≤ m := by omega
  have m2 : m ≤ 90 := by omega
  have hf : ∀ (k c : Nat), (T (List.replicate k c)).length = k := fun k c => by rw [T_len, List.length_replicate]
  have l0 : (Str.ofString "0").length = 1 := by decide +kernel
  have l10 : (Str.ofString "10").length = 2 := by decide +kernel
  have l110 : (Str.ofString "110").length = 3 := by decide +kernel
  refine ⟨_, rfl, 48, (m : Nat), (by rw [s_zero]; rfl), congrArg V.int hm, by omega, by omega, ?_⟩
  refine ⟨_, rfl, T (List.replicate m 48), _, rfl, rfl, (by rw [hf, l0]; exact small_line (by omega)), _, rfl, 49, (m : Nat), (by rw [s_one]; rfl), congrArg V.int hm, by omega, by omega, _, T (List.replicate m 49), rfl, rfl, (by rw [len_app, hf, hf, l0]; exact small_line (by omega)), ?_⟩
  refine ⟨_, rfl, _, rfl, _, _, rfl, rfl, 49, ((m + 1 : Nat) : Int), (by rw [s_one]; rfl), congrArg V.int (by omega), by omega, by omega, T (List.replicate m 48), T (List.replicate (m + 1) 49), rfl, rfl, (by rw [hf, hf]; exact small_line (by omega)), ?_⟩
  refine ⟨_, rfl, T (List.replicate m 48), _, rfl, rfl, (by rw [hf, l10]; exact small_line (by omega)), _, rfl, _, _, rfl, rfl, 49, ((m - 1 : Nat) : Int), (by rw [s_one]; rfl), congrArg V.int (by omega), by omega, by omega, _, T (List.replicate (m - 1) 49), rfl, rfl, (by rw [len_app, hf, hf, l10]; exact small_line (by omega)), ?_⟩
  refine ⟨_, rfl, T (List.replicate m 48), _, rfl, rfl, (by rw [hf, l110]; exact small_line (by omega)), _, rfl, _, _, rfl, rfl, 49, ((m - 2 : Nat) : Int), (by rw [s_one]; rfl), congrArg V.int (by omega), by omega, by omega, _, T (List.replicate (m - 2) 49), rfl, rfl, (by rw [len_app, hf, hf, l110]; exact small_line (by omega)), ?_⟩
  refine ⟨(by show 4 ≤ sizeLine; decide), fun q nq => ?_⟩
  have elst : [V.str (T (List.replicate m 48) ++ Str.ofString "0" ++ T (List.replicate m 49)), V.str (T (List.replicate m 48) ++ T (List.replicate (m + 1) 49)), V.str (T (List.replicate m 48) ++ Str.ofString "10" ++ T (List.replicate (m - 1) 49)), V.str (T (List.replicate m 48) ++ Str.ofString "110" ++ T (List.replicate (m - 2) 49))] =
      [VT (Mi.a0 m), VT (Mi.a1 m), VT (Mi.a2 m), VT (Mi.a3 m)] := by
    rw [s_zero, s_10, s_110, T_app, T_app, T_app, T_app, T_app, T_app, T_app]
    rfl
  have hq : upd H2 q (.lst [V.str (T (List.replicate m 48) ++ Str.ofString "0" ++ T (List.replicate m 49)), V.str (T (List.replicate m 48) ++ T (List.replicate (m + 1) 49)), V.str (T (List.replicate m 48) ++ Str.ofString "10" ++ T (List.replicate (m - 1) 49)), V.str (T (List.replicate m 48) ++ Str.ofString "110" ++ T (List.replicate (m - 2) 49))]) q = some (.lst [VT (Mi.a0 m), VT (Mi.a1 m), VT (Mi.a2 m), VT (Mi.a3 m)]) := by
    rw [← elst]
    exact upd_same
  have W := wide_of m1 m2
  obtain ⟨q0, q1, q2, q3⟩ := a_len m1
  have g0 : (Mi.a0 m).length ≤ 400 ∧ Mi.isSigns (Mi.a0 m) = true := ⟨by omega, (isSt_len W.s0).2.2⟩
  have g1 : (Mi.a1 m).length ≤ 400 ∧ Mi.isSigns (Mi.a1 m) = true := ⟨by omega, (isSt_len W.s1).2.2⟩
  have g2 : (Mi.a2 m).length ≤ 400 ∧ Mi.isSigns (Mi.a2 m) = true := ⟨by omega, (isSt_len W.s2).2.2⟩
  have g3 : (Mi.a3 m).length ≤ 400 ∧ Mi.isSigns (Mi.a3 m) = true := ⟨by omega, W.s3⟩
  refine ⟨_, rfl, 1, rfl, q, _, rfl, SqL.of hq, fun p1 n1 => jr_use (ls := [Mi.a0 m]) rfl (List.cons_ne_nil _ _) (by show 1 ≤ 4; decide) (fun l hl => ?_) n1 fun H3 v1 d1 s1 j1 i1 => ?_⟩
  · rw [List.mem_singleton.mp hl]; exact g0
  have hq3 := s1 _ _ hq
  refine ⟨_, rfl, 1, rfl, q, _, rfl, SqL.of hq3, fun p2 n2 => jr_use (ls := [Mi.a1 m, Mi.a0 m]) rfl (List.cons_ne_nil _ _) (by show 2 ≤ 4; decide) (fun l hl => ?_) n2 fun H4 v2 d2 s2 j2 i2 => ?_⟩
  · simp only [List.mem_cons, List.not_mem_nil, or_false] at hl
    rcases hl with rfl | rfl
    · exact g1
    · exact g0
  have hq4 := s2 _ _ hq3
  refine ⟨_, rfl, 3, rfl, q, _, rfl, SqL.of hq4, fun p3 n3 => jr_use (ls := [Mi.a0 m, Mi.a1 m, Mi.a2 m]) rfl (List.cons_ne_nil _ _) (by show 3 ≤ 4; decide) (fun l hl => ?_) n3 fun H5 v3 d3 s3 j3 i3 => ?_⟩
  · simp only [List.mem_cons, List.not_mem_nil, or_false] at hl
    rcases hl with rfl | rfl | rfl
    · exact g0
    · exact g1
    · exact g2
  have hq5 := s3 _ _ hq4
  refine ⟨_, rfl, 1, rfl, 3, rfl, q, _, rfl, SqL.of hq5, fun p4 n4 => jr_use (ls := [Mi.a1 m, Mi.a2 m]) rfl (List.cons_ne_nil _ _) (by show 2 ≤ 4; decide) (fun l hl => ?_) n4 fun H6 v4 d4 s4 j4 i4 => ?_⟩
  · simp only [List.mem_cons, List.not_mem_nil, or_false] at hl
    rcases hl with rfl | rfl
    · exact g1
    · exact g2
  have hq6 := s4 _ _ hq5
  refine ⟨_, rfl, 2, rfl, 0, rfl, q, _, rfl, SqL.of hq6, fun p5 n5 => jr_use (ls := [Mi.a2 m, Mi.a1 m]) rfl (List.cons_ne_nil _ _) (by show 2 ≤ 4; decide) (fun l hl => ?_) n5 fun H7 v5 d5 s5 j5 i5 => ?_⟩
  · simp only [List.mem_cons, List.not_mem_nil, or_false] at hl
    rcases hl with rfl | rfl
    · exact g2
    · exact g1
  have hq7 := s5 _ _ hq6
  rw [last_1 m1 W j1] at i1
  rw [last_2 m1 W j2] at i2
  rw [last_3 m1 W j3] at i3
  rw [last_4 m1 W j4] at i4
  rw [last_5 m1 W j5] at i5
  refine ⟨(by show 5 ≤ sizeLine; decide), fun g ng => ?_⟩
  have sg := same_upd (o := .lst [v1, v2, v3, v4, v5]) (Same.refl H7) ng
  have hg8 : upd H7 g (.lst [v1, v2, v3, v4, v5]) g = some (.lst [v1, v2, v3, v4, v5]) := upd_same
  have hq8 := sg _ _ hq7
  have ia := (i1.same (same_tr s2 (same_tr s3 (same_tr s4 (same_tr s5 sg)))))
  have ib := (i2.same (same_tr s3 (same_tr s4 (same_tr s5 sg))))
  have ic := (i3.same (same_tr s4 (same_tr s5 sg)))
  have id' := (i4.same (same_tr s5 sg))
  have ie := i5.same sg
  generalize upd H7 g (.lst [v1, v2, v3, v4, v5]) = H8 at *
  refine ⟨_, rfl, g, _, [v1, v2, v3, v4, v5], rfl, hg8, .inl rfl, fun D1 hD1 => ?_⟩
  obtain ⟨ds, hds⟩ : ∃ ds : List Pd, ds = [.lacks (Mi.a2 m), .lacks (Mi.a2 m), .lacks (Mi.a3 m), .lacks (Mi.a0 m), .lacks (Mi.a0 m)] := ⟨_, rfl⟩
  have hdo : ∀ d ∈ ds, d.ok := fun d hd => by
    rw [hds] at hd
    simp only [List.mem_cons, List.not_mem_nil, or_false] at hd
    rcases hd with rfl | rfl | rfl | rfl | rfl
    · exact ⟨g2.2, by omega⟩
    · exact ⟨g2.2, by omega⟩
    · exact ⟨g3.2, by omega⟩
    · exact ⟨g0.2, by omega⟩
    · exact ⟨g0.2, by omega⟩
  have hdl : ds.length = 5 := by rw [hds]; rfl
  have hget : ∀ (i : Nat) (x : V), ([v1, v2, v3, v4, v5] : List V)[i]? = some x → ∃ d, ds[i]? = some d ∧ IsP c H8 x d := fun i x hx => by
    rw [hds]
    match i, hx with
    | 0, hx => obtain rfl := Option.some.inj hx; exact ⟨_, rfl, ia⟩
    | 1, hx => obtain rfl := Option.some.inj hx; exact ⟨_, rfl, ib⟩
    | 2, hx => obtain rfl := Option.some.inj hx; exact ⟨_, rfl, ic⟩
    | 3, hx => obtain rfl := Option.some.inj hx; exact ⟨_, rfl, id'⟩
    | 4, hx => obtain rfl := Option.some.inj hx; exact ⟨_, rfl, ie⟩
  have tk : ∀ {i : Nat} {d : Pd}, ds[i]? = some d → ds.take (i + 1) = ds.take i ++ [d] := fun h => by rw [List.take_succ, h]; rfl
  refine lc_it walk_seq (fun i H2 => Same H8 H2 ∧ ∃ acc, H2 D1 = some (.lst acc) ∧ Tls H2 acc (ds.take i)) ⟨same_upd (Same.refl H8) hD1, [], upd_same, .nil⟩ (fun i H2 _ h => h.1 _ _ hg8) ?_ ?_
  · rintro i x H9 H10 hi ⟨s9, acc, ha, ht⟩ ⟨rfl, hx⟩
    obtain ⟨d, hd, ix⟩ := hget i x hx
    refine ⟨rfl, tyes_ite ⟨_, rfl, x, d, rfl, ix.same s9, fun H11 y s11 ny hy => ⟨acc, s11 _ _ ha, ?_, ?_, acc ++ [.ref y], upd_same, ?_⟩⟩⟩
    · have := ht.len
      rw [this, List.length_take]
      exact small1000 (by omega)
    · exact same_updN (same_tr s9 s11) hD1
    · rw [tk hd]
      have sb : ∀ v e, Tls H11 v e → Tls (upd H11 D1 (.lst (acc ++ [.ref y]))) v e := fun v e => by
        intro t
        induction t with
        | nil => exact .nil
        | cons h _ ih =>
          refine .cons ?_ ih
          rw [upd_ne]
          · exact h
          · rintro rfl
            rw [s11 _ _ ha] at h
            cases h
      exact sb _ _ ((ht.same s11).snoc hy)
  · rintro H9 ⟨s9, acc, ha, ht⟩
    have ht' : Tls H9 acc ds := by
      have e : ds.take [v1, v2, v3, v4, v5].length = ds := List.take_of_length_le (by rw [hdl]; exact Nat.le_refl 5)
      rw [e] at ht
      exact ht
    have fin : (PyData.list (tD ds)).shown.length ≤ sizeLine := list_line (m := 40000) (n := 5) (tD_len hdo) (by rw [tD, List.length_map, hdl]; exact Nat.le_refl 5) (by decide)
    have dep : (PyData.list (tD ds)).depth ≤ 60 := by
      have := tD_depth ds
      show PyData.depthAll (tD ds) + 1 ≤ 60
      omega
    refine ⟨D1, .list (tD ds), rfl, .lst (SqL.of ha) ht'.dp, tD_show hdo, tD_dict ds, dep, fin, ?_⟩
    have hq9 := s9 _ _ hq8
    refine ⟨(by show 5 ≤ sizeLine; decide), fun z nz => ?_⟩
    have s10 := same_upd (o := .lst [.int 2, .int 2, .int 3, .int 0, .int 0]) (Same.refl H9) nz
    have hz : upd H9 z (.lst [.int 2, .int 2, .int 3, .int 0, .int 0]) z = some (.lst [.int 2, .int 2, .int 3, .int 0, .int 0]) := upd_same
    have hq10 := s10 _ _ hq9
    generalize upd H9 z (.lst [.int 2, .int 2, .int 3, .int 0, .int 0]) = H10 at *
    refine ⟨z, _, [.int 2, .int 2, .int 3, .int 0, .int 0], rfl, hz, .inl rfl, fun D2 hD2 => ?_⟩
    refine lc_it walk_seq (fun i H2 => Same H10 H2 ∧ ∃ acc, H2 D2 = some (.lst acc) ∧ Tls H2 acc (ds.take i)) ⟨same_upd (Same.refl H10) hD2, [], upd_same, .nil⟩ (fun i H2 _ h => h.1 _ _ hz) ?_ ?_
    · rintro i x H13 H12 hi ⟨s11, acc2, ha2, ht2⟩ ⟨rfl, hx⟩
      obtain ⟨n, l, d, ex, el, ed, hd⟩ : ∃ (n : Int) (l : List Nat) (d : Pd), x = .int n ∧ atI [VT (Mi.a0 m), VT (Mi.a1 m), VT (Mi.a2 m), VT (Mi.a3 m)] n = some (VT l) ∧ d = .lacks l ∧ ds[i]? = some d := by
        rw [hds]
        match i, hx with
        | 0, hx => obtain rfl := Option.some.inj hx; exact ⟨2, _, _, rfl, rfl, rfl, rfl⟩
        | 1, hx => obtain rfl := Option.some.inj hx; exact ⟨2, _, _, rfl, rfl, rfl, rfl⟩
        | 2, hx => obtain rfl := Option.some.inj hx; exact ⟨3, _, _, rfl, rfl, rfl, rfl⟩
        | 3, hx => obtain rfl := Option.some.inj hx; exact ⟨0, _, _, rfl, rfl, rfl, rfl⟩
        | 4, hx => obtain rfl := Option.some.inj hx; exact ⟨0, _, _, rfl, rfl, rfl, rfl⟩
      subst ex ed
      refine ⟨rfl, tyes_ite ⟨_, rfl, _, rfl, q, _, n, VT l, rfl, rfl, SqL.of (s11 _ _ hq10), el, (by show 2 ≤ sizeLine; decide), fun y ny => ?_⟩⟩
      have s12 := same_upd (o := .tup (Pd.lacks l).told) (Same.refl _) ny
      have hy : upd _ y (.tup (Pd.lacks l).told) y = some (.tup (Pd.lacks l).told) := upd_same (H := H12)
      refine ⟨acc2, s12 _ _ ha2, ?_, ?_, acc2 ++ [.ref y], upd_same, ?_⟩
      · have := ht2.len
        rw [this, List.length_take]
        exact small1000 (by omega)
      · exact same_updN (same_tr s11 s12) hD2
      · rw [tk hd]
        have sb : ∀ v e, Tls (upd H12 y (.tup (Pd.lacks l).told)) v e → Tls (upd (upd H12 y (.tup (Pd.lacks l).told)) D2 (.lst (acc2 ++ [.ref y]))) v e := fun v e => by
          intro t
          induction t with
          | nil => exact .nil
          | cons h _ ih =>
            refine .cons ?_ ih
            rw [upd_ne]
            · exact h
            · rintro rfl
              rw [s12 _ _ ha2] at h
              cases h
        exact sb _ _ ((ht2.same s12).snoc hy)
    · rintro H11 ⟨s11, acc2, ha2, ht2⟩
      have ht3 : Tls H11 acc2 ds := by
        have e : ds.take [V.int 2, .int 2, .int 3, .int 0, .int 0].length = ds := List.take_of_length_le (by rw [hdl]; exact Nat.le_refl 5)
        rw [e] at ht2
        exact ht2
      refine ⟨D2, .list (tD ds), rfl, .lst (SqL.of ha2) ht3.dp, tD_show hdo, tD_dict ds, dep, fin, rfl, ?_⟩
      rw [decide_eq_true rfl]
      exact hD _
end
end Ev
namespace Ev
open PySem PySem.Spec PyProof.Rows L2
theorem minL_mem {ls : List (List Nat)} (h : ls ≠ []) : Mi.minL ls ∈ ls := by
  have hl := List.length_pos_iff.mpr h
  have e := best_min ls (ls.length - 1) (by omega)
  rw [show ls.length - 1 + 1 = ls.length by omega, List.take_length] at e
  have hb := best_le (btT ls) (ls.length - 1)
  rw [← e]
  have hi : argBest (btT ls) (ls.length - 1) < ls.length := by omega
  have : ls.getD (argBest (btT ls) (ls.length - 1)) [] = ls[argBest (btT ls) (ls.length - 1)] := by
    rw [List.getD_eq_getElem?_getD, List.getElem?_eq_getElem hi]
    rfl
  rw [this]
  exact List.getElem_mem hi
theorem due_ok {xs : List V} {p : Nat} (hl : xs.length ≤ 700) (hp : p ≤ 4) : (dueP xs p).ok ∧ (∀ m, dueP xs p = .whole m → m = (xs.length : Nat)) ∧ ∀ a y, dueP xs p = .broken a y → a ≤ 700 := by
  unfold dueP
  cases hj : judge xs with
  | some ik =>
    obtain ⟨i, k⟩ := ik
    obtain ⟨h1, h2⟩ := judge_kind hj
    refine ⟨⟨by omega, by omega, h1⟩, fun m e => (by cases e), fun a y e => ?_⟩
    injection e with e _
    omega
  | none =>
    show (if lackRows xs p ≠ [] then _ else _ : Pd).ok ∧ _
    by_cases hn : lackRows xs p ≠ []
    · rw [if_pos hn]
      have hm := minL_mem hn
      unfold lackRows at hm
      obtain ⟨h1, _⟩ := List.mem_filter.mp hm
      obtain ⟨h2, h3⟩ := Mi.rows_mem h1
      exact ⟨⟨h3, by show (Mi.minL _).length ≤ 1000; unfold lackRows; omega⟩, fun m e => (by cases e), fun a y e => (by cases e)⟩
    · rw [if_neg hn]
      by_cases hu : Mi.unlike (txt (xs.getD 0 .non)) (txt (lastV xs)) = 1
      · rw [if_pos hu]
        refine ⟨⟨by omega, by omega⟩, fun m e => ?_, fun a y e => (by cases e)⟩
        injection e with e
        exact e.symm
      · rw [if_neg hu]
        refine ⟨⟨by omega, by omega, .inr (.inl rfl)⟩, fun m e => (by cases e), fun a y e => ?_⟩
        injection e with e _
        omega
theorem eqb_self (d : Pd) : d.eqb d = true := by
  cases d with
  | whole n => exact decide_eq_true rfl
  | broken a y =>
    show (decide (a = a) && decide (y = y)) = true
    rw [decide_eq_true rfl, decide_eq_true rfl]
    rfl
  | lacks s => exact decide_eq_true rfl
/-! ### a list of data -/
inductive Dvs (H : Hp) : List V → List PyData → Prop where
  | nil : Dvs H [] []
  | cons {v : V} {d : PyData} {vs : List V} {ds : List PyData} : Dv H v d → Dvs H vs ds → Dvs H (v :: vs) (d :: ds)
theorem dvs_of {H : Hp} : ∀ {xs : List V}, (∀ x ∈ xs, ∃ d, Dv H x d) → ∃ ds, Dvs H xs ds
  | [], _ => ⟨[], .nil⟩
  | x :: xs, h => by
    obtain ⟨d, hd⟩ := h x List.mem_cons_self
    obtain ⟨ds, hds⟩ := dvs_of (xs := xs) fun y hy => h y (List.mem_cons_of_mem _ hy)
    exact ⟨d :: ds, .cons hd hds⟩
theorem Dvs.dp {K : PySem.W.Frag} {H : Hp} : ∀ {xs : List V} {ds : List PyData}, Dvs H xs ds → DpAll K H xs ds
  | _, _, .nil => .nil
  | _, _, .cons h r => .cons h.dp r.dp
theorem Dvs.len {H : Hp} : ∀ {xs : List V} {ds : List PyData}, Dvs H xs ds → ds.length = xs.length
  | _, _, .nil => rfl
  | _, _, .cons _ r => by rw [List.length_cons, List.length_cons, r.len]
theorem Dvs.show {H : Hp} : ∀ {xs : List V} {ds : List PyData}, Dvs H xs ds → PyData.showableAll ds = true
  | _, _, .nil => rfl
  | _, d :: ds, .cons h r => by
    show (d.showable && PyData.showableAll ds) = true
    rw [h.showable, r.show]
    rfl
theorem Dvs.noDict {H : Hp} : ∀ {xs : List V} {ds : List PyData}, Dvs H xs ds → PyData.hasDictAll ds = false
  | _, _, .nil => rfl
  | _, d :: ds, .cons h r => by
    show (d.hasDict || PyData.hasDictAll ds) = false
    rw [h.noDict, r.noDict]
    rfl
theorem Dvs.depth {H : Hp} : ∀ {xs : List V} {ds : List PyData}, Dvs H xs ds → PyData.depthAll ds ≤ 1
  | _, _, .nil => Nat.zero_le _
  | _, d :: ds, .cons h r => by
    show max d.depth (PyData.depthAll ds) ≤ 1
    have h1 := h.depth
    have h2 := r.depth
    omega
theorem Dv.line {H : Hp} {v : V} {d : PyData} (h : Dv H v d) : d.shown.length ≤ 2000 := by
  cases h with
  | non => exact (by decide +kernel : (Str.ofString "None").length ≤ 2000)
  | bl b => cases b
            · exact (by decide +kernel : (Str.ofString "False").length ≤ 2000)
            · exact (by decide +kernel : (Str.ofString "True").length ≤ 2000)
  | int i h =>
    have := PySem.int_text_length_le (a := i) (k := 1920) (by decide) (small_log h)
    show (Str.ofString (toString i)).length ≤ _
    rw [PySem.ofString_length]
    omega
  | str l h b =>
    have := reprT_len b
    show (reprText (T l)).length ≤ _
    omega
  | lst l h b e =>
    have := reprT_len b
    have h2 := listText_up (ts := [reprText (T l)]) (m := 202) fun t ht => by rw [List.mem_singleton.mp ht]; omega
    show (listText [reprText (T l)]).length ≤ _
    have h3 : [reprText (T l)].length = 1 := rfl
    rw [h3] at h2
    omega
theorem Dvs.line {H : Hp} : ∀ {xs : List V} {ds : List PyData}, Dvs H xs ds → ∀ t ∈ PyData.shownAll ds, t.length ≤ 2000
  | _, _, .nil, t, ht => by cases ht
  | _, d :: ds, .cons h r, t, ht => by
    have ht' : t ∈ d.shown :: PyData.shownAll ds := ht
    rcases List.mem_cons.mp ht' with rfl | ht'
    · exact h.line
    · exact r.line t ht'
theorem str_dec (a b : Str) : decide (V.str a = V.str b) = decide (a = b) := by
  by_cases h : a = b
  · rw [h]; simp
  · rw [decide_eq_false h]
    refine decide_eq_false fun e => h ?_
    injection e
section
variable {P : Program} {w : World} {K : PySem.W.Frag} {mg : Str → Option Value} {base : Heap}
/-- what the second part of the law starts from -/
structure Mid (H1 : Hp) (h L : Addr) (cells : List Int) (at_ rest : Int) (a : Addr) (xs : List V) (p : Nat) : Prop where
  hp : Hpk H1 h L cells at_ rest
  hat : at_ ≤ 990000
  ha : H1 a = some (.lst xs)
  ne : xs ≠ []
  len : xs.length ≤ 700
  dv : ∀ x ∈ xs, ∃ d, Dv H1 x d
  wd : ∃ l, VT l ∈ xs ∧ l.length = 2 * p + 1
  p1 : 1 ≤ p
  p4 : p ≤ 4
theorem law_mid {c : Cs} (G : Lw P w K mg base c) {f : Addr} {cdv : Value} {A : Around} {outer : List Env} {s : Shared} {H : Hp} (hr : Room 8 (A.deeper (envOfC "law" (defScope sLaw) s.heap.objs.size f cdv))) (hgd : A.guards = some []) :
    ∃ t, PSs (XL P w K mg base f cdv A outer s H) ((defBody sLaw).drop 10) t ∧
      ∀ (D : Ends) (h L : Addr) (cells : List Int) (at_ rest : Int) (a : Addr) (xs : List V) (p : Nat) (o0 o2 o5 o6 o7 o8 o9 o10 o11 o12 o13 o14 : Option V) (H1 : Hp), Mid H1 h L cells at_ rest a xs p → (∀ H2, D.rt (.bl true) H2) →
        t D [o0, some (.ref h), o2, some (.int (p : Nat)), some (.ref a), o5, o6, o7, o8, o9, o10, o11, o12, o13, o14] H1 := by
  obtain ⟨fD, fdD, GD, kD, bD, gD⟩ := G.due
  obtain ⟨fT, fdT, GT, kT, bT, gT⟩ := G.told
  obtain ⟨fJ, fdJ, GJ, kJ, bJ, kbJ, gJ⟩ := G.judged
  obtain ⟨fS, fdS, GS, kS, bS, gS⟩ := G.shows
  obtain ⟨fb, Mb, Gb⟩ := G.wn.mb
  obtain ⟨fw, Mw, Gw⟩ := G.wn.mw
  obtain ⟨tl, htl, rtl⟩ := law_last (outer := outer) (H := H) G hr hgd
  have B := G.bl
  refine ⟨_, pss_cons (ps_par (i := 6) (j := 7) rfl scLaw.nd rfl rfl (by decide) rfl rfl (pa_cons (pe_callB (call_reprD hgd (room64 hr)) (by rfl) B.repr PyProof.Rows.boot_repr (pa_cons (pe_call GD (hr.mono (by decide)) (by rfl) gD kD bD .nil pass0 (pa_cons (pv 4) (pa_cons (pv 3) pa_nil))) pa_nil))
      (pa_cons (pe_callTy call_list_of (by rfl) B.list (by decide +kernel) (pa_cons (pv 4) pa_nil)) pa_nil)) rfl)
    (pss_cons (ps_if (pw_or (pt_cmpR op_ne (pe_callB (call_reprD hgd (room64 hr)) (by rfl) B.repr PyProof.Rows.boot_repr (pa_cons (pe_call GT (hr.mono (by decide)) (by rfl) gT kT bT .nil pass0 (pa_cons (pe_call GJ hr (by rfl) gJ kJ bJ .nil pass0 (pa_cons (pv 7) pa_nil)) pa_nil)) pa_nil)) (pv 6) (nomark _))
        (pw_or1 (pt_cmpR op_ne (pe_callB (call_reprD hgd (room64 hr)) (by rfl) B.repr PyProof.Rows.boot_repr (pa_cons (pe_call GT (hr.mono (by decide)) (by rfl) gT kT bT .nil pass0 (pa_cons (pe_callK0 GJ hr (by rfl) gJ kJ kbJ pass0 (pk_cons (pe_callTy call_tuple_of (by rfl) B.tuple (by decide +kernel) (pa_cons (pv 4) pa_nil)) pk_nil)) pa_nil)) pa_nil)) (pv 6) (nomark _)))).pt
      (pss_one (ps_ret pe_bl)) pss_nil)
    (pss_cons (ps_set (i := 8) scLaw.nd rfl (Or.inl rfl) (pe_lst
      (pa_cons (pe_call GS hr (by rfl) gS kS bS .nil pass0 (pa_cons (pv 4) (pa_cons (pe_call GJ hr (by rfl) gJ kJ bJ .nil pass0 (pa_cons (pv 4) pa_nil)) pa_nil)))
      (pa_cons (pe_call GS hr (by rfl) gS kS bS .nil pass0 (pa_cons (pv 4) (pa_cons (StX.pe_makeR Mw Gw (hr.mono (by decide)) (by rfl) G.mw pass0 (pa_cons (pe_callB call_len_seq (by rfl) B.len PySem.boot_len (pa_cons (pv 4) pa_nil)) pa_nil)) pa_nil)))
      (pa_cons (pe_call GS hr (by rfl) gS kS bS .nil pass0 (pa_cons (pv 4) (pa_cons (StX.pe_makeR Mb Gb (hr.mono (by decide)) (by rfl) G.mb pass0 (pa_cons pe_int (pa_cons pe_str pa_nil))) pa_nil))) pa_nil)))))
    (pss_cons (ps_if (pw_or (pt_cmpR op_ne (pe_callB (call_reprD hgd (room64 hr)) (by rfl) B.repr PyProof.Rows.boot_repr (pa_cons (pv 7) pa_nil)) (pe_callB (call_reprD hgd (room64 hr)) (by rfl) B.repr PyProof.Rows.boot_repr (pa_cons (pv 4) pa_nil)) (nomark _))
        (pw_or1 (pt_cmpR op_ne (pe_callB (call_reprD hgd (room64 hr)) (by rfl) B.repr PyProof.Rows.boot_repr (pa_cons (pv 8) pa_nil)) (pe_callB (call_reprD hgd (room64 hr)) (by rfl) B.repr PyProof.Rows.boot_repr (pa_cons (pe_lst (pa_cons pe_bl
          (pa_cons (pe_cmpR op_eq (pv 6) (pe_callB (call_reprD hgd (room64 hr)) (by rfl) B.repr PyProof.Rows.boot_repr (pa_cons (pe_tup (pa_cons pe_str (pa_cons (pe_callB call_len_seq (by rfl) B.len PySem.boot_len (pa_cons (pv 4) pa_nil)) pa_nil))) pa_nil)) (nomark _))
          (pa_cons (pe_cmpR op_eq (pv 6) (pe_callB (call_reprD hgd (room64 hr)) (by rfl) B.repr PyProof.Rows.boot_repr (pa_cons (pe_tup (pa_cons pe_str (pa_cons pe_int (pa_cons pe_str pa_nil)))) pa_nil)) (nomark _)) pa_nil)))) pa_nil)) (nomark _)))).pt
      (pss_one (ps_ret pe_bl)) pss_nil) htl))), ?_⟩
  intro D h L cells at_ rest a xs p o0 o2 o5 o6 o7 o8 o9 o10 o11 o12 o13 o14 H1 M hD
  obtain ⟨d, hd⟩ : ∃ d, d = dueP xs p := ⟨_, rfl⟩
  obtain ⟨dok, dwh, dbr⟩ := due_ok (xs := xs) (p := p) M.len M.p4
  rw [← hd] at dok dwh dbr
  have hokv : ∀ x ∈ xs, Okv H1 x := fun x hx => by
    obtain ⟨e, he⟩ := M.dv x hx
    exact he.okv
  have hl5 : xs.length ≤ 5000 := Nat.le_trans M.len (by decide)
  have tline : (PyData.tuple d.toldD).shown.length ≤ sizeLine := Nat.le_trans (told_len dok) (by decide)
  have tdep : (PyData.tuple d.toldD).depth ≤ 60 := Nat.le_trans (told_depth d) (by decide)
  refine ⟨_, rfl, _, rfl, a, xs, p, rfl, M.ha, M.ne, hokv, hl5, M.p4, fun H2 q0 s2 nq0 hq0 => ?_⟩
  rw [← hd] at hq0
  refine ⟨q0, .tuple d.toldD, rfl, told_dp d hq0, told_showable dok, told_dict d, tdep, tline, ?_⟩
  have ha2 := s2 _ _ M.ha
  refine ⟨_, rfl, a, xs, rfl, .inl (SqL.of ha2), fun q1 nq1 => ⟨_, _, rfl, ?_⟩⟩
  have s3 := same_upd (o := .lst xs) s2 nq1
  have hq1 : upd H2 q1 (.lst xs) q1 = some (.lst xs) := upd_same
  generalize upd H2 q1 (.lst xs) = H3 at *
  have isd : ∀ {e : Pd}, Jr xs e → e = d := fun j => by rw [hd]; exact jr_due M.p1 M.p4 M.wd j
  refine ⟨_, rfl, q1, _, xs, rfl, hq1, .inl rfl, M.ne, fun x hx => (hokv x hx).same s3, hl5, fun H4 v1 d1 s4 j1 i1 => ?_⟩
  rw [isd j1] at i1
  refine ⟨v1, d, rfl, i1, fun H5 y5 s5 n5 h5 => ?_⟩
  have s35 := same_tr s4 s5
  have s15 := same_tr s3 s35
  refine ⟨y5, .tuple d.toldD, rfl, told_dp d h5, told_showable dok, told_dict d, tdep, tline, _, rfl, rfl, _, rfl, iteB (fun e => absurd e (by simp)) (fun _ => ?_)⟩
  refine ⟨_, rfl, a, xs, rfl, .inl ⟨SqL.of (s15 _ _ M.ha), fun q6 n6 => ?_⟩⟩
  have s6 := same_upd (o := .tup xs) s15 n6
  have h6 : upd H5 q6 (.tup xs) q6 = some (.tup xs) := upd_same
  have s56 := same_upd (o := .tup xs) (Same.refl H5) n6
  generalize upd H5 q6 (.tup xs) = H6 at *
  refine ⟨q6, _, xs, rfl, h6, .inr rfl, M.ne, fun x hx => (hokv x hx).same s6, hl5, fun H7 v2 d2 s7 j2 i2 => ?_⟩
  rw [isd j2] at i2
  refine ⟨v2, d, rfl, i2, fun H8 y8 s8 n8 h8 => ?_⟩
  have s18 := same_tr s6 (same_tr s7 s8)
  have s38 := same_tr s35 (same_tr s56 (same_tr s7 s8))
  refine ⟨y8, .tuple d.toldD, rfl, told_dp d h8, told_showable dok, told_dict d, tdep, tline, _, rfl, rfl, _, rfl, iteB (fun e => absurd e (by simp)) (fun _ => ?_)⟩
  have ha8 := s18 _ _ M.ha
  refine ⟨_, rfl, _, rfl, a, _, xs, rfl, ha8, .inl rfl, M.ne, fun x hx => (hokv x hx).same s18, hl5, fun H9 v3 d3 s9 j3 i3 => ?_⟩
  rw [isd j3] at i3
  have s19 := same_tr s18 s9
  refine ⟨a, _, xs, v3, d, rfl, s19 _ _ M.ha, .inl rfl, M.ne, fun x hx => (hokv x hx).same s19, hl5, i3, fun H10 d4 s10 j4 => ?_⟩
  rw [isd j4, eqb_self]
  have s110 := same_tr s19 s10
  refine ⟨_, rfl, _, rfl, a, xs, rfl, .inl (SqL.of (s110 _ _ M.ha)), fun x dx nx ndx nex => ⟨x, dx, .whole (xs.length : Nat), ⟨_, rfl⟩, rfl, G.gw, upd_same, fun H11 p2 hb2 hp2 hx2 hp2' => ⟨rfl, ?_⟩⟩⟩
  have hx700 := M.len
  obtain ⟨sm, ip⟩ := made (c := c) (d := .whole (xs.length : Nat)) ⟨by omega, by omega⟩ nx ndx nex hb2 hx2 hp2'
  have s111 := same_tr s110 sm
  refine ⟨a, _, xs, _, _, rfl, s111 _ _ M.ha, .inl rfl, M.ne, fun x hx => (hokv x hx).same s111, hl5, ip, fun H12 d5 s12 j5 => ?_⟩
  rw [isd j5, ← shown_whole (d := d) (n := (xs.length : Nat)) dwh]
  have s112 := same_tr s111 s12
  refine ⟨_, rfl, fun x dx nx ndx nex => ⟨x, dx, .broken 0 ("switch" : Str), ⟨_, _, rfl⟩, rfl, G.gb, upd_same, fun H13 p3 hb3 hp3 hx3 hp3' => ⟨rfl, ?_⟩⟩⟩
  obtain ⟨sm2, ip2⟩ := made (c := c) (d := .broken 0 ("switch" : Str)) ⟨by omega, by omega, .inr (.inl rfl)⟩ nx ndx nex hb3 hx3 hp3'
  have s113 := same_tr s112 sm2
  refine ⟨a, _, xs, _, _, rfl, s113 _ _ M.ha, .inl rfl, M.ne, fun x hx => (hokv x hx).same s113, hl5, ip2, fun H14 d6 s14 j6 => ?_⟩
  rw [isd j6, ← shown_switch dok dbr]
  have s114 := same_tr s113 s14
  have s314 : Same H3 H14 := same_tr s38 (same_tr s9 (same_tr s10 (same_tr sm (same_tr s12 (same_tr sm2 s14)))))
  obtain ⟨b1, hb1⟩ : ∃ b, b = decide ((PyData.tuple d.toldD).shown = (PyData.tuple (Pd.whole ((xs.length : Nat) : Int)).toldD).shown) := ⟨_, rfl⟩
  obtain ⟨b2, hb2⟩ : ∃ b, b = decide ((PyData.tuple d.toldD).shown = (PyData.tuple (Pd.broken 0 "switch").toldD).shown) := ⟨_, rfl⟩
  rw [← hb1, ← hb2]
  refine ⟨(by show 3 ≤ sizeLine; decide), fun g ng => ?_⟩
  have sg := same_upd (o := .lst [.bl true, .bl b1, .bl b2]) s114 ng
  have hg : upd H14 g (.lst [.bl true, .bl b1, .bl b2]) g = some (.lst [.bl true, .bl b1, .bl b2]) := upd_same
  have s315 := same_upd (o := .lst [.bl true, .bl b1, .bl b2]) s314 ng
  generalize upd H14 g (.lst [.bl true, .bl b1, .bl b2]) = H15 at *
  have hdv : ∀ x ∈ xs, ∃ e, Dv H15 x e := fun x hx => by
    obtain ⟨e, he⟩ := M.dv x hx
    exact ⟨e, he.same fun b l e => sg _ _ e⟩
  obtain ⟨ds, hds⟩ := dvs_of hdv
  have lline : (PyData.list ds).shown.length ≤ sizeLine := list_line (m := 2000) (n := 700) hds.line (by rw [hds.len]; exact M.len) (by decide)
  have ldep : (PyData.list ds).depth ≤ 60 := by
    have := hds.depth
    show PyData.depthAll ds + 1 ≤ 60
    omega
  refine ⟨_, rfl, q1, .list ds, rfl, .lst (SqL.of (s315 _ _ hq1)) hds.dp, hds.show, hds.noDict, ldep, lline, ?_⟩
  refine ⟨_, rfl, a, .list ds, rfl, .lst (SqL.of (sg _ _ M.ha)) hds.dp, hds.show, hds.noDict, ldep, lline, rfl, _, rfl, iteB (fun e => absurd e (by simp)) (fun _ => ?_)⟩
  have bline : (PyData.list [.bool true, .bool b1, .bool b2]).shown.length ≤ sizeLine := list_line (m := 5) (n := 3) (fun t ht => by
    have bl : ∀ b : Bool, (PyData.bool b).shown.length ≤ 5 := fun b => by
      cases b
      · exact (by decide +kernel : (Str.ofString "False").length ≤ 5)
      · exact (by decide +kernel : (Str.ofString "True").length ≤ 5)
    have ht' : t ∈ [(PyData.bool true).shown, (PyData.bool b1).shown, (PyData.bool b2).shown] := ht
    simp only [List.mem_cons, List.not_mem_nil, or_false] at ht'
    rcases ht' with rfl | rfl | rfl
    · exact bl _
    · exact bl _
    · exact bl _) (by show 3 ≤ 3; decide) (by decide)
  have bdp : ∀ (H' : Hp) (g : Addr), H' g = some (.lst [.bl true, .bl b1, .bl b2]) → Dp K H' (.ref g) (.list [.bool true, .bool b1, .bool b2]) := fun H' g e => .lst (SqL.of e) (.cons (.bl _) (.cons (.bl _) (.cons (.bl _) .nil)))
  refine ⟨_, rfl, g, .list [.bool true, .bool b1, .bool b2], rfl, bdp _ _ hg, rfl, rfl, (by show 1 ≤ 60; decide), bline, ?_⟩
  have wok : (Pd.whole ((xs.length : Nat) : Int)).ok := ⟨by omega, by omega⟩
  have sok : (Pd.broken 0 "switch").ok := ⟨by omega, by omega, .inr (.inl rfl)⟩
  refine ⟨_, rfl, _, rfl, a, xs, rfl, .inl (SqL.of (sg _ _ M.ha)), (by show 2 ≤ sizeLine; decide), fun y1 m1 => ?_⟩
  have t1 := same_upd (o := .tup (Pd.whole ((xs.length : Nat) : Int)).told) sg m1
  refine ⟨y1, .tuple (Pd.whole ((xs.length : Nat) : Int)).toldD, rfl, told_dp _ upd_same, told_showable wok, told_dict _, Nat.le_trans (told_depth _) (by decide), Nat.le_trans (told_len wok) (by decide), rfl, ?_⟩
  refine ⟨_, rfl, (by show 3 ≤ sizeLine; decide), fun y2 m2 => ?_⟩
  have t2 := same_upd (o := .tup (Pd.broken 0 "switch").told) t1 m2
  refine ⟨y2, .tuple (Pd.broken 0 "switch").toldD, rfl, told_dp _ upd_same, told_showable sok, told_dict _, Nat.le_trans (told_depth _) (by decide), Nat.le_trans (told_len sok) (by decide), rfl, ?_⟩
  refine ⟨(by show 3 ≤ sizeLine; decide), fun y3 m3 => ?_⟩
  have eb : [V.bl true, V.bl (decide (V.str (PyData.tuple d.toldD).shown = V.str (PyData.tuple (Pd.whole ((xs.length : Nat) : Int)).toldD).shown)), V.bl (decide (V.str (PyData.tuple d.toldD).shown = V.str (PyData.tuple (Pd.broken 0 "switch").toldD).shown))] = [V.bl true, .bl b1, .bl b2] := by
    rw [str_dec, str_dec, ← hb1, ← hb2]
  refine ⟨y3, .list [.bool true, .bool b1, .bool b2], rfl, bdp _ _ ?_, rfl, rfl, (by show 1 ≤ 60; decide), bline, rfl, _, rfl, iteB (fun e => absurd e (by simp)) (fun _ => ?_)⟩
  · rw [← eb]
    exact upd_same
  have t3 := fun o => same_upd (o := o) t2 m3
  refine rtl D h L cells at_ rest _ _ _ _ _ _ _ _ _ _ _ _ _ _ _ (M.hp.same (t3 _)) (by have := M.hat; omega) hD
end
end Ev
namespace Ev
open PySem PySem.Spec PyProof.Rows L2
theorem round_facts {p : Nat} (h1 : 1 ≤ p) (h2 : p ≤ 4) : ∃ rs, Mi.roundM p = some rs ∧ Bs (2 * p + 1) rs ∧ 6 ≤ rs.length ∧ rs.length ≤ 252 := by
  have key : ∀ n, Mi.roundOk p n = true → 6 ≤ n → n ≤ 252 → ∃ rs, Mi.roundM p = some rs ∧ Bs (2 * p + 1) rs ∧ 6 ≤ rs.length ∧ rs.length ≤ 252 := by
    intro n h n1 n2
    unfold Mi.roundOk at h
    cases hr : Mi.roundM p with
    | none => rw [hr] at h; cases h
    | some l =>
      rw [hr] at h
      have h' : (decide (l.length = n) && l.all fun s => decide (s.length = 2 * p + 1) && s.all fun c => decide (c = 48) || decide (c = 49)) = true := h
      rw [Bool.and_eq_true] at h'
      obtain ⟨h3, h4⟩ := h'
      have h3 := of_decide_eq_true h3
      refine ⟨l, rfl, fun s hs => ?_, by omega, by omega⟩
      have := List.all_eq_true.mp h4 s hs
      rw [Bool.and_eq_true] at this
      exact ⟨of_decide_eq_true this.1, this.2⟩
  have : p = 1 ∨ p = 2 ∨ p = 3 ∨ p = 4 := by omega
  rcases this with rfl | rfl | rfl | rfl
  · exact key 6 Mi.round1 (by decide) (by decide)
  · exact key 20 Mi.round2 (by decide) (by decide)
  · exact key 70 Mi.round3 (by decide) (by decide)
  · exact key 252 Mi.round4 (by decide) (by decide)
theorem tif_five {way z : Int} {σ : L2.St} {H : Hp} {Q : VK} (h2 : σ[2]? = some (some (.int way))) (h3 : σ[3]? = some (some (.int z))) (k : ∀ y : Int, (y = 4 ∨ y = z) → Q (.int y) H) : tIf (tTest (tOp rEq (tVar 2) (tC (.int 5)))) (tC (.int 4)) (tVar 3) σ H Q :=
  ⟨_, h2, rfl, _, rfl, iteB (fun _ => k 4 (.inl rfl)) (fun _ => ⟨_, h3, k z (.inr rfl)⟩)⟩
theorem tif_rev {K : PySem.W.Frag} {σ : L2.St} {H : Hp} {Q : VK} {h L a : Addr} {cells : List Int} {at_ rest : Int} {ws : List (List Nat)} (h1 : σ[1]? = some (some (.ref h))) (h4 : σ[4]? = some (some (.ref a))) (hp : Hpk H h L cells at_ rest) (hat : at_ ≤ 999000)
    (ha : H a = some (.lst (ws.map VT))) (hne : a ≠ h) (k : ∀ H' a' ws' at' rest', Hpk H' h L cells at' rest' → at' ≤ at_ + 1 → a' ≠ h → H' a' = some (.lst (ws'.map VT)) → (ws' = ws ∨ ws' = ws.reverse) → Q (.ref a') H') :
    tIf (tTest (tOp rEq (tCall spPick [] E0 (tCons (tVar 1) (tCons (tC (.int 2)) tNil))) (tC (.int 1)))) (tBack K (tVar 4) tNoPart tNoPart) (tVar 4) σ H Q := by
  refine ⟨_, h1, h, L, cells, at_, rest, 2, rfl, hp, by omega, by omega, by omega, fun H2 r a2 r2 b2 p2 l2 w1 w2 => ⟨rfl, _, rfl, iteB (fun _ => ?_) (fun _ => ?_)⟩⟩
  · have ha2 := b2 _ _ hne ha
    refine ⟨_, h4, a, _, rfl, SqL.of ha2, fun q nq => ?_⟩
    have s3 := same_upd (o := .lst (backV none none (ws.map VT))) (Same.refl H2) nq
    refine k _ q ws.reverse a2 r2 (p2.same s3) l2 (fun e => ?_) ?_ (.inr rfl)
    · rw [e, p2.2.1] at nq
      cases nq
    · rw [upd_same, backV_all, List.map_reverse]
  · exact ⟨_, h4, k _ a ws a2 r2 p2 l2 hne (b2 _ _ hne ha) (.inl rfl)⟩
section
variable {P : Program} {w : World} {K : PySem.W.Frag} {mg : Str → Option Value} {base : Heap}
theorem law_all {c : Cs} (G : Lw P w K mg base c) {f : Addr} {cdv : Value} {A : Around} {outer : List Env} {s : Shared} {H : Hp} (hr : Room 8 (A.deeper (envOfC "law" (defScope sLaw) s.heap.objs.size f cdv))) (hgd : A.guards = some []) :
    ∃ t, PSs (XL P w K mg base f cdv A outer s H) (defBody sLaw) t ∧
      ∀ (D : Ends) (a : Addr) (ns : List Int) (H1 : Hp), SqL K H1 a (ns.map V.int) → (∀ H2, D.rt (.bl true) H2) → t D (start nLaw [.ref a]) H1 := by
  obtain ⟨fH, fdH, GH, kH, bH, gH⟩ := G.heap
  obtain ⟨fP, fdP, GP, kP, bP, gP⟩ := G.pick
  obtain ⟨fR, fdR, GR, kR, bR, gR⟩ := G.round
  obtain ⟨fB, fdB, GB, kB, bB, gB⟩ := G.bent
  obtain ⟨fS, fdS, GS, kS, bS, gS⟩ := G.spoilt
  obtain ⟨tm, htm, rtm⟩ := law_mid (outer := outer) (H := H) G hr hgd
  have B := G.bl
  refine ⟨_, pss_cons (ps_set (i := 1) scLaw.nd rfl (Or.inl rfl) (pe_call GH (hr.mono (by decide)) (by rfl) gH kH bH .nil pass0 (pa_cons (pv 0) pa_nil)))
    (pss_cons (ps_par (i := 2) (j := 3) rfl scLaw.nd rfl rfl (by decide) rfl rfl (pa_cons (pe_call GP (hr.mono (by decide)) (by rfl) gP kP bP .nil pass0 (pa_cons (pv 1) (pa_cons pe_int pa_nil)))
      (pa_cons (pe_op op_add pe_int (pe_call GP (hr.mono (by decide)) (by rfl) gP kP bP .nil pass0 (pa_cons (pv 1) (pa_cons pe_int pa_nil)))) pa_nil)) rfl)
    (pss_cons (ps_set (i := 3) scLaw.nd rfl (Or.inl rfl) (pe_ifExp (pt_cmpR op_eq (pv 2) pe_int (nomark _)) pe_int (pv 3)))
    (pss_cons (ps_set (i := 4) scLaw.nd rfl (Or.inl rfl) (pe_call GR (hr.mono (by decide)) (by rfl) gR kR bR .nil pass0 (pa_cons (pv 3) pa_nil)))
    (pss_cons (ps_set (i := 5) scLaw.nd rfl (Or.inl rfl) (pe_call GP (hr.mono (by decide)) (by rfl) gP kP bP .nil pass0 (pa_cons (pv 1) (pa_cons (pe_callB call_len_seq (by rfl) B.len PySem.boot_len (pa_cons (pv 4) pa_nil)) pa_nil))))
    (pss_cons (ps_set (i := 4) scLaw.nd rfl (Or.inl rfl) (pe_op op_cat (pe_slice sl_list (pv 4) (po_some (pv 5)) po_none) (pe_slice sl_list (pv 4) po_none (po_some (pv 5)))))
    (pss_cons (ps_set (i := 4) scLaw.nd rfl (Or.inl rfl) (pe_ifExp (pt_cmpR op_eq (pe_call GP (hr.mono (by decide)) (by rfl) gP kP bP .nil pass0 (pa_cons (pv 1) (pa_cons pe_int pa_nil))) pe_int (nomark _)) (pe_back (pv 4) po_none po_none) (pv 4)))
    (pss_cons (ps_if (pw_or (pt_cmpR op_eq (pv 2) pe_int (nomark _)) (pw_or1 (pt_cmpR op_eq (pv 2) pe_int (nomark _)))).pt
      (pss_one (ps_set (i := 4) scLaw.nd rfl (Or.inl rfl) (pe_slice sl_list (pv 4) po_none (po_some (pe_op op_sub (pe_callB call_len_seq (by rfl) B.len PySem.boot_len (pa_cons (pv 4) pa_nil))
        (pe_call GP (hr.mono (by decide)) (by rfl) gP kP bP .nil pass0 (pa_cons (pv 1) (pa_cons (pe_callB call_len_seq (by rfl) B.len PySem.boot_len (pa_cons (pv 4) pa_nil)) pa_nil)))))))) pss_nil)
    (pss_cons (ps_if (pt_cmpR op_eq (pv 2) pe_int (nomark _)) (pss_one (ps_set (i := 4) scLaw.nd rfl (Or.inl rfl) (pe_call GB (hr.mono (by decide)) (by rfl) gB kB bB .nil pass0 (pa_cons (pv 1) (pa_cons (pv 4) pa_nil))))) pss_nil)
    (pss_cons (ps_if (pt_cmpR op_eq (pv 2) pe_int (nomark _)) (pss_one (ps_set (i := 4) scLaw.nd rfl (Or.inl rfl) (pe_call GS (hr.mono (by decide)) (by rfl) gS kS bS .nil pass0 (pa_cons (pv 1) (pa_cons (pv 4) pa_nil))))) pss_nil)
      htm))))))))), ?_⟩
  intro D a0 ns H0 ha0 hD
  refine ⟨_, rfl, a0, ns, rfl, ha0, fun H1 h L cells s1 nh p1 => ?_⟩
  refine ⟨_, rfl, h, L, cells, 0, 0, 6, rfl, p1, by omega, by omega, by omega, fun H2 way a2 r2 b2 p2 l2 w1 w2 => ?_⟩
  refine ⟨_, rfl, h, L, cells, a2, r2, 3, rfl, p2, by omega, by omega, by omega, fun H3 pr a3 r3 b3 p3 l3 v1 v2 => ⟨_, _, rfl, rfl, _, _, rfl, ?_⟩⟩
  refine tif_five rfl rfl fun y hy => ?_
  obtain ⟨p, rfl⟩ : ∃ p : Nat, y = p := ⟨y.toNat, by omega⟩
  have hp1 : 1 ≤ p := by omega
  have hp4 : p ≤ 4 := by omega
  obtain ⟨rs, hrs, brs, rl1, rl2⟩ := round_facts hp1 hp4
  refine ⟨_, rfl, p, rs, rfl, hp4, hrs, fun H4 a s4 na ha => ?_⟩
  have p4 := p3.same s4
  have hne : a ≠ h := fun e => by
    rw [e, p3.2.1] at na
    cases na
  have hml : ((rs.map VT).length : Nat) = rs.length := List.length_map _
  refine ⟨_, rfl, _, rfl, a, _, rfl, .inl (SqL.of ha), h, L, cells, a3, r3, _, rfl, p4, by omega, by rw [hml]; omega, by rw [hml]; omega, fun H5 bg a5 r5 b5 p5 l5 u1 u2 => ?_⟩
  have ha5 := b5 _ _ hne ha
  rw [hml] at u2
  refine ⟨_, rfl, _, rfl, bg, rfl, a, _, rfl, SqL.of ha5, fun c1 n1 => ?_⟩
  have t1 := same_upd (o := .lst (cutV (rs.map VT) (some bg) none)) (Same.refl H5) n1
  have hc1 : upd H5 c1 (.lst (cutV (rs.map VT) (some bg) none)) c1 = some (.lst (cutV (rs.map VT) (some bg) none)) := upd_same
  refine ⟨_, rfl, _, rfl, bg, rfl, a, _, rfl, SqL.of (t1 _ _ ha5), fun c2 n2 => ?_⟩
  have t2 := same_upd (o := .lst (cutV (rs.map VT) none (some bg))) t1 n2
  have n12 : c1 ≠ c2 := ne_of_none hc1 n2
  have lc1 := cutV_length (rs.map VT) (some bg) none
  have lc2 := cutV_length (rs.map VT) none (some bg)
  rw [hml] at lc1 lc2
  refine ⟨c1, c2, _, _, rfl, rfl, by rw [upd_ne n12]; exact hc1, upd_same, small_line (by omega), fun c3 n3 => ?_⟩
  have t3 := same_upd (o := .lst (cutV (rs.map VT) (some bg) none ++ cutV (rs.map VT) none (some bg))) t2 n3
  obtain ⟨b, rfl⟩ : ∃ b : Nat, bg = b := ⟨bg.toNat, by omega⟩
  obtain ⟨ws, hws⟩ : ∃ ws, ws = rs.drop b ++ rs.take b := ⟨_, rfl⟩
  have ews : cutV (rs.map VT) (some (b : Int)) none ++ cutV (rs.map VT) none (some (b : Int)) = ws.map VT := by
    rw [cutV_from, cutV_to, hws, List.map_append, List.map_drop, List.map_take]
  have bws : Bs (2 * p + 1) ws := fun l hl => by
    rw [hws] at hl
    rcases List.mem_append.mp hl with hl | hl
    · exact brs l (List.mem_of_mem_drop hl)
    · exact brs l (List.mem_of_mem_take hl)
  have lws : ws.length = rs.length := by
    rw [hws, List.length_append, List.length_drop, List.length_take]
    omega
  have h6 : upd (upd (upd H5 c1 (.lst (cutV (rs.map VT) (some (b : Int)) none))) c2 (.lst (cutV (rs.map VT) none (some (b : Int))))) c3 (.lst (cutV (rs.map VT) (some (b : Int)) none ++ cutV (rs.map VT) none (some (b : Int)))) c3 = some (.lst (ws.map VT)) := by
    rw [← ews]
    exact upd_same
  have hne3 : c3 ≠ h := fun e => by
    rw [e, t2 _ _ p5.2.1] at n3
    cases n3
  refine tif_rev rfl rfl (p5.same t3) (by omega) h6 hne3 fun H7 a7 ws7 at7 r7 p7 l7 ne7 ha7 hw7 => ?_
  have b7 : Bs (2 * p + 1) ws7 := fun l hl => by
    rcases hw7 with rfl | rfl
    · exact bws l hl
    · exact bws l (List.mem_reverse.mp hl)
  have l7' : ws7.length = rs.length := by
    rcases hw7 with rfl | rfl
    · exact lws
    · rw [List.length_reverse]; exact lws
  have hm7 : ((ws7.map VT).length : Nat) = ws7.length := List.length_map _
  -- the lists that go on
  have dvl : ∀ (H' : Hp) (zs : List (List Nat)), (∀ l ∈ zs, l ∈ ws7) → ∀ x ∈ zs.map VT, ∃ d, Dv H' x d := fun H' zs hz x hx => by
    obtain ⟨l, hl, rfl⟩ := List.mem_map.mp hx
    obtain ⟨e1, e2⟩ := b7 l (hz l hl)
    exact ⟨_, .str l (by omega) e2⟩
  have wdl : ∀ (zs : List (List Nat)), (∀ l ∈ zs, l ∈ ws7) → zs ≠ [] → ∃ l, VT l ∈ zs.map VT ∧ l.length = 2 * p + 1 := fun zs hz hn => by
    obtain ⟨l, r, e⟩ := List.exists_cons_of_ne_nil hn
    have hl : l ∈ zs := by rw [e]; exact List.mem_cons_self
    exact ⟨l, List.mem_map.mpr ⟨l, hl, rfl⟩, (b7 l (hz l hl)).1⟩
  have same7 : Mid H7 h L cells at7 r7 a7 (ws7.map VT) p := ⟨p7, by omega, ha7, fun e => absurd (show ws7.length = 0 by rw [← hm7, e]; rfl) (by omega), by rw [hm7]; omega, dvl _ _ fun l hl => hl, wdl _ (fun l hl => hl) (fun e => absurd (show ws7.length = 0 by rw [e]; rfl) (by omega)), hp1, hp4⟩
  have hway : way = 0 ∨ way = 1 ∨ way = 2 ∨ way = 3 ∨ way = 4 ∨ way = 5 := by omega
  have cut7 : ∀ (H8 : Hp) (r a8 r8 : Int) (q : Addr), But h H7 H8 → Hpk H8 h L cells a8 r8 → a8 ≤ at7 + 1 → 0 ≤ r → r < ((ws7.map VT).length : Nat) → H8 q = none → Mid (upd H8 q (.lst (cutV (ws7.map VT) none (some (((ws7.map VT).length : Nat) - r))))) h L cells a8 r8 q (cutV (ws7.map VT) none (some (((ws7.map VT).length : Nat) - r))) p := by
    intro H8 r a8 r8 q b8 p8 l8 r1 r2' nq
    rw [hm7] at r2' ⊢
    obtain ⟨j, hj⟩ : ∃ j : Nat, ((ws7.length : Nat) : Int) - r = (j : Nat) := ⟨(((ws7.length : Nat) : Int) - r).toNat, by omega⟩
    rw [hj, cutV_to, ← List.map_take]
    have lz : (ws7.take j).length = j := by rw [List.length_take]; omega
    have hzn : ws7.take j ≠ [] := fun e => absurd (show (ws7.take j).length = 0 by rw [e]; rfl) (by omega)
    refine ⟨p8.same (same_upd (Same.refl H8) nq), by omega, upd_same, fun e => hzn (List.map_eq_nil_iff.mp e), by rw [List.length_map]; omega, dvl _ _ fun l hl => List.mem_of_mem_take hl, wdl _ (fun l hl => List.mem_of_mem_take hl) hzn, hp1, hp4⟩
  rcases hway with rfl | rfl | rfl | rfl | rfl | rfl
  · refine ⟨_, rfl, rfl, _, rfl, iteB (fun e => absurd e (by decide)) (fun _ => ⟨_, rfl, rfl, _, rfl, iteB (fun e => absurd e (by decide)) (fun _ => ?_)⟩)⟩
    refine ⟨_, rfl, rfl, _, rfl, iteB (fun e => absurd e (by decide)) (fun _ => ?_)⟩
    refine ⟨_, rfl, rfl, _, rfl, iteB (fun e => absurd e (by decide)) (fun _ => ?_)⟩
    exact rtm D h L cells at7 r7 a7 _ p _ _ _ _ _ _ _ _ _ _ _ _ _ same7 hD
  · refine ⟨_, rfl, rfl, _, rfl, iteB (fun _ => ifT ?_) (fun e => absurd e (by decide))⟩
    refine ⟨_, rfl, _, rfl, a7, _, rfl, .inl (SqL.of ha7), _, rfl, _, rfl, a7, _, rfl, .inl (SqL.of ha7), h, L, cells, at7, r7, _, rfl, p7, by omega, by rw [hm7]; omega, by rw [hm7]; omega, fun H8 r a8 r8 b8 p8 l8 e1 e2 => ⟨_, _, rfl, rfl, _, rfl, a7, _, rfl, SqL.of (b8 _ _ ne7 ha7), fun q nq => ?_⟩⟩
    refine ⟨_, rfl, rfl, _, rfl, iteB (fun e => absurd e (by decide)) (fun _ => ?_)⟩
    refine ⟨_, rfl, rfl, _, rfl, iteB (fun e => absurd e (by decide)) (fun _ => ?_)⟩
    exact rtm D h L cells a8 r8 q _ p _ _ _ _ _ _ _ _ _ _ _ _ _ (cut7 H8 r a8 r8 q b8 p8 l8 e1 e2 nq) hD
  · refine ⟨_, rfl, rfl, _, rfl, iteB (fun e => absurd e (by decide)) (fun _ => ⟨_, rfl, rfl, _, rfl, iteB (fun e => absurd e (by decide)) (fun _ => ?_)⟩)⟩
    refine ⟨_, rfl, rfl, _, rfl, iteB (fun _ => ?_) (fun e => absurd e (by decide))⟩
    refine ⟨_, rfl, _, rfl, h, L, cells, at7, r7, a7, ws7, 2 * p + 1, rfl, p7, by omega, ha7, Ne.symm ne7, b7, by omega, by omega, by omega, fun H8 q a8 r8 ws8 b8 p8 l8 nq hq hn8 hm8 hl8 => ?_⟩
    refine ⟨_, rfl, rfl, _, rfl, iteB (fun e => absurd e (by decide)) (fun _ => ?_)⟩
    exact rtm D h L cells a8 r8 q _ p _ _ _ _ _ _ _ _ _ _ _ _ _ ⟨p8, by omega, hq, fun e => hn8 (List.map_eq_nil_iff.mp e), by rw [List.length_map]; omega, dvl _ _ hm8, wdl _ hm8 hn8, hp1, hp4⟩ hD
  · refine ⟨_, rfl, rfl, _, rfl, iteB (fun e => absurd e (by decide)) (fun _ => ⟨_, rfl, rfl, _, rfl, iteB (fun e => absurd e (by decide)) (fun _ => ?_)⟩)⟩
    refine ⟨_, rfl, rfl, _, rfl, iteB (fun e => absurd e (by decide)) (fun _ => ?_)⟩
    refine ⟨_, rfl, rfl, _, rfl, iteB (fun _ => ?_) (fun e => absurd e (by decide))⟩
    refine ⟨_, rfl, _, rfl, h, L, cells, at7, r7, a7, ws7, 2 * p + 1, rfl, p7, by omega, ha7, Ne.symm ne7, b7, by omega, by omega, by omega, by omega, fun H8 q a8 r8 xs8 b8 p8 l8 nq hq hn8 hl8 hd8 hw8 => ?_⟩
    exact rtm D h L cells a8 r8 q _ p _ _ _ _ _ _ _ _ _ _ _ _ _ ⟨p8, by omega, hq, hn8, hl8, hd8, hw8, hp1, hp4⟩ hD
  · refine ⟨_, rfl, rfl, _, rfl, iteB (fun e => absurd e (by decide)) (fun _ => ⟨_, rfl, rfl, _, rfl, iteB (fun e => absurd e (by decide)) (fun _ => ?_)⟩)⟩
    refine ⟨_, rfl, rfl, _, rfl, iteB (fun e => absurd e (by decide)) (fun _ => ?_)⟩
    refine ⟨_, rfl, rfl, _, rfl, iteB (fun e => absurd e (by decide)) (fun _ => ?_)⟩
    exact rtm D h L cells at7 r7 a7 _ p _ _ _ _ _ _ _ _ _ _ _ _ _ same7 hD
  · refine ⟨_, rfl, rfl, _, rfl, iteB (fun e => absurd e (by decide)) (fun _ => ⟨_, rfl, rfl, _, rfl, iteB (fun _ => ?_) (fun e => absurd e (by decide))⟩)⟩
    refine ⟨_, rfl, _, rfl, a7, _, rfl, .inl (SqL.of ha7), _, rfl, _, rfl, a7, _, rfl, .inl (SqL.of ha7), h, L, cells, at7, r7, _, rfl, p7, by omega, by rw [hm7]; omega, by rw [hm7]; omega, fun H8 r a8 r8 b8 p8 l8 e1 e2 => ⟨_, _, rfl, rfl, _, rfl, a7, _, rfl, SqL.of (b8 _ _ ne7 ha7), fun q nq => ?_⟩⟩
    refine ⟨_, rfl, rfl, _, rfl, iteB (fun e => absurd e (by decide)) (fun _ => ?_)⟩
    refine ⟨_, rfl, rfl, _, rfl, iteB (fun e => absurd e (by decide)) (fun _ => ?_)⟩
    exact rtm D h L cells a8 r8 q _ p _ _ _ _ _ _ _ _ _ _ _ _ _ (cut7 H8 r a8 r8 q b8 p8 l8 e1 e2 nq) hD
end
end Ev
namespace Ev
open PySem PySem.Spec PyProof.Rows L2
section
variable {P : Program} {w : World} {K : PySem.W.Frag} {mg mb : Str → Option Value} {base : Heap}
/-- the law's call where nothing is under way: what the guards are is known there -/
theorem law_run {c : Cs} {f : Addr} {fd : FuncData} (F : Fun K "law" "law" sLaw f fd) (G : Lw P w K mg base c) {A : Around} {outer : List Env} {s : Shared} {H : Hp} {a : Addr} {ns : List Int} (hgd : A.guards = some []) (hr : Room 9 A) (e0 : Env0 P w K mg base A outer s H)
    (ha : SqL K H a (ns.map V.int)) : codeAny (model P w) A (.call (.ref f) ⟨[.ref a], []⟩) (CR CX0 outer P w H s (fun v _ => v = .bl true) E0) s := by
  obtain ⟨oc, od, kV, doc, pm, an, cdv, ct, osl, rfl, lk, hcd⟩ := F.ex
  have KX : K.In s.heap := e0.mod.kin.keeps fun b o e => (e0.bs b o e).1
  have lim : s.heap.NoLimit := e0.mod.nolimit.keeps fun b o e => (e0.bs b o e).1
  have hbind : bindArgs (PySem.W.fnOf "law" "law" (defArgs sLaw) (defBody sLaw) (defScope sLaw) .none kV doc pm an cdv ct) ⟨[Value.ref a], []⟩ = pure ([("_law_script" : Str)].zip [Value.ref a]) := rfl
  have hkind : ∀ y ∈ [("_law_script" : Str)].zip [Value.ref a], (defScope sLaw).names.lookup y.1 = some .local ∨ ((defScope sLaw).names.lookup y.1 = some .cell ∧ ((cellsFrom (s.heap.objs.size + 1) (defScope sLaw).names []).lookup y.1).isSome = true) := fun ⟨n, v⟩ hy => by
    rcases scLaw.par n (List.of_mem_zip hy).1 with q | q
    · exact .inl q
    · exact .inr ⟨q, PySem.W.cellsFrom_some _ _ _ (.inl q)⟩
  refine codeAny_call_function hr.depth (KX _ _ lk) rfl scLaw.co scLaw.gen rfl (PySem.W.codeRec_of KX hcd) ((BindsTo.of_eq hbind) _ _ _ _ ?_)
  refine wpAny_newFunctionEnv_cells scLaw.kind hkind fun env he s1 x => ?_
  subst he
  refine ⟨lim.keeps x.toInCall.keep, codeAny_func ?_⟩
  obtain ⟨t, ht, hq⟩ := law_all (f := f) (cdv := cdv) (A := A) (outer := outer) (s := s) (H := H) G (hr.deeper _) hgd
  have I : Inv (cxOf CX0 P w K mg base nLaw "law" (defScope sLaw) f cdv A outer s H E0) [] (start nLaw [.ref a]) H s1 := inv_start scLaw hr.hd e0 rfl (.cons rfl .nil) x
  refine wpAny_mono ((PSs.nox ht).run [] s1 (start nLaw [.ref a]) H { nx := fun _ _ => False, rt := fun v _ => v = .bl true } I (hq _ a ns H ha fun _ => rfl)) (fun fl s' hs => ?_) fun e s' hs => hs
  cases fl with
  | ret u =>
    obtain ⟨v, σ', H', J, rv, q⟩ := hs
    exact ⟨v, H', J.os, J.bare, J.base, J.hok, rv, q⟩
  | next =>
    obtain ⟨σ', H', J, q⟩ := hs
    exact False.elim q
  | brk =>
    obtain ⟨_, _, _, q⟩ := hs
    exact False.elim q
  | cont =>
    obtain ⟨_, _, _, q⟩ := hs
    exact False.elim q
/-- the same behind the top, told of the whole heap: the script alone is tracked -/
theorem law_at {f a : Addr} {fd : FuncData} {s : Shared} {vs : List Value} {ns : List Int} (F : Fun K "law" "law" sLaw f fd) (G : ∀ base : Heap, K.In base → base.Ns mainGlobals mg → ∃ c, Lw P w K mg base c) (KX : K.In s.heap) (hns : s.heap.Ns mainGlobals mg) (hb : s.heap.Ns builtinsNs mb)
    (hbb : ∀ x : Str, x ≠ "__name__" → mb x = bootBuiltins x) (hlim : s.heap.NoLimit) (hg : s.gens = #[]) (ha : s.heap.get? a = some { cls := .type "list", data := .seq vs.toArray }) (hi : IntsAre vs ns) (hl : ns.length ≤ sizeLine) :
    codeAny (model P w) callerA (.call (.ref f) ⟨[.ref a], []⟩) (fun r s' => r = .ok (.ret (.bool true)) ∧ OldK s.heap s'.heap ∧ s'.os = s.os ∧ AllBare s'.gens) s := by
  have rv := vals_ints hi
  have hml : ((ns.map V.int).length : Nat) = ns.length := List.length_map _
  have main : ∀ H : Hp, SqL K H a (ns.map V.int) → HOk P w H s.heap → (∀ b u, H b = some u → b = a ∧ K.lookup a = none ∧ ∃ o xs, u = .frz o (.lst xs)) →
      codeAny (model P w) callerA (.call (.ref f) ⟨[.ref a], []⟩) (fun r s' => r = .ok (.ret (.bool true)) ∧ OldK s.heap s'.heap ∧ s'.os = s.os ∧ AllBare s'.gens) s := by
    intro H hS hok hH
    have hid : ∀ {b : Addr} {o : Obj}, s.heap.get? b = some o → H b = none → (hidT s.heap H).get? b = some o := fun e n => hidT_get e n
    have dict0 : ∀ {b : Addr} {o : Obj} {es : Array DictEntry} {ep : Nat}, s.heap.get? b = some o → o.data = .dict es ep → H b = none := fun {b o es ep} e d => by
      cases q : H b with
      | none => rfl
      | some u =>
        obtain ⟨rfl, _⟩ := hH b u q
        rw [ha] at e
        cases e
        have d' : Data.seq vs.toArray _ = Data.dict es ep := d
        cases d'
    have nsH : ∀ {b : Addr} {m : Str → Option Value}, s.heap.Ns b m → (hidT s.heap H).Ns b m := fun {b m} ⟨o, es, ep, e, d, r⟩ => ⟨o, es, ep, hid e (dict0 e d), d, r⟩
    have inH : K.In (hidT s.heap H) := fun b o e => hid (KX b o e) (by
      cases q : H b with
      | none => rfl
      | some u =>
        obtain ⟨rfl, hk, _⟩ := hH b u q
        rw [hk] at e
        cases e)
    obtain ⟨c, Gc⟩ := G _ inH (nsH hns)
    have hM : Mod K mg (hidT s.heap H) := ⟨inH, nsH hns, ⟨mb, nsH hb, hbb⟩, let ⟨mc, h1, h2⟩ := hlim; ⟨mc, nsH h1, h2⟩⟩
    have e0 : Env0 P w K mg (hidT s.heap H) callerA [] s H := ⟨rfl, hM, fun b o e => of_hidT e, Nat.le_of_eq (hidT_size _ _), trivial, fun b hb => (List.not_mem_nil hb).elim, hok, .of_eq hg⟩
    refine codeAny_mono (law_run F Gc (A := callerA) rfl ⟨rfl, by decide, by decide⟩ e0 hS) fun r s' h => ?_
    match r, h with
    | .ok (.ret u), h =>
      obtain ⟨v, H', os, bare, un, hok', r', q⟩ := h
      have q' : v = .bl true := q
      subst q'
      obtain rfl : u = Value.bool true := r'
      refine ⟨rfl, OldK.of_keep fun b o e => ?_, os, bare⟩
      cases q : H b with
      | none => exact un.keep b o e q (fun z => (List.not_mem_nil z).elim) (by simp)
      | some u =>
        obtain ⟨_, _, ob, xs, rfl⟩ := hH b u q
        obtain ⟨e1, _⟩ := hok b _ q
        obtain ⟨e2, _⟩ := hok' b _ (un.frzs b ob _ q)
        rw [e] at e1
        cases e1
        exact e2
  cases hk : K.lookup a with
  | some o =>
    have e := KX a o hk
    rw [ha] at e
    cases e
    exact main (fun _ => none) (.inr ⟨_, vs.toArray, _, hk, rfl, rfl, rfl, by rw [List.size_toArray, hi.length]; exact hl, by simpa using rv⟩) (fun b u z => by have z' : (none : Option HO) = some u := z; cases z') fun b u z => by have z' : (none : Option HO) = some u := z; cases z'
  | none =>
    refine main (upd (fun _ => none) a (.frz { cls := .type "list", data := .seq vs.toArray } (.lst (ns.map V.int)))) (.inl (.inr ⟨{ cls := .type "list", data := .seq vs.toArray }, upd_same⟩)) (fun b u z => ?_) fun b u z => ?_
    · by_cases hb : b = a
      · subst hb
        rw [upd_same] at z
        cases z
        exact ⟨ha, by rw [List.length_map]; exact hl, vs, _, rv, ha⟩
      · rw [upd_ne hb] at z
        have z' : (none : Option HO) = some u := z
        cases z'
    · by_cases hb : b = a
      · subst hb
        rw [upd_same] at z
        cases z
        exact ⟨rfl, hk, _, _, rfl⟩
      · rw [upd_ne hb] at z
        have z' : (none : Option HO) = some u := z
        cases z'
end
theorem walk {l : PySem.W.OpenLaw} {q : Program} {loose : List Str} {XP : (Str → Option Value) → Heap → Prop} {YP : World → Heap → Prop} {d : DefRec} {K : Params → PySem.W.Frag} (hn : l.most = some 63) (hdf : d.params.defaults = [])
    (hY : ∀ (w : World) (h : Heap), YP w h → (K w.params).In h)
    (F : ∀ (w : World) (mg : Str → Option Value) (fa : Addr) (h : Heap), (K w.params).In h → h.Ns mainGlobals mg → mg d.name = some (.ref fa) →
      (∃ fd : FuncData, Fun (K w.params) "law" "law" sLaw fa fd) ∧ ∀ base : Heap, (K w.params).In base → base.Ns mainGlobals mg → ∃ c, Lw l.prog w (K w.params) mg base c) :
    PySem.W.WalkO q loose XP YP l.row.toRowW d [] (fun f vs => PySem.call f vs) := by
  refine Att.attach_call hn hdf fun w s₀ s₁ mg mb fa o pm cd doc a vs ns G Y ho hd hcd hmg hobj hints hlen hg => ?_
  have KX := hY w _ Y
  obtain ⟨⟨fd, F1⟩, F2⟩ := F w mg fa _ KX G.T.g hmg
  exact law_at F1 F2 KX G.T.g G.T.b G.T.builtins G.T.nolimit hg hobj hints (Nat.le_trans hlen (by decide))
end Ev
namespace Ev
open PySem PySem.Spec PyProof.Rows L2
/-! ### what the top has written -/
structure FnAt (K : PySem.W.Frag) (x : Str) (st : Stmt) : Prop where
  ex : ∃ f fd, PySem.W.nsIn K mainGlobals x = some (some (.ref f)) ∧ Fun K x x st f fd
theorem fnAt_mk {K : PySem.W.Frag} {x : Str} {st : Stmt} {f : Addr} {oc : Value} {od an : Option Addr} {osl : Array (Option Value)} {kV doc pm cdv ct : Value} (a : PySem.W.nsIn K mainGlobals x = some (some (.ref f)))
    (l : K.lookup f = some ⟨oc, od, .func (PySem.W.fnOf x x (defArgs st) (defBody st) (defScope st) .none kV doc pm an cdv ct), osl⟩) (c : PySem.W.codeIn K cdv x = true) (k : PySem.W.keepIn K (.ref f) = true) : FnAt K x st := ⟨_, _, a, fun_mk l c k⟩
structure MeAt (K : PySem.W.Frag) (x qual : Str) (st : Stmt) (f : Addr) : Prop where
  ex : ∃ fd, Fun K x qual st f fd
theorem meAt_mk {K : PySem.W.Frag} {x qual : Str} {st : Stmt} {f : Addr} {oc : Value} {od an : Option Addr} {osl : Array (Option Value)} {kV doc pm cdv ct : Value} 
    (l : K.lookup f = some ⟨oc, od, .func (PySem.W.fnOf x qual (defArgs st) (defBody st) (defScope st) .none kV doc pm an cdv ct), osl⟩) (c : PySem.W.codeIn K cdv qual = true) (k : PySem.W.keepIn K (.ref f) = true) : MeAt K x qual st f := ⟨_, fun_mk l c k⟩
theorem funS_mk {K : PySem.W.Frag} {P : Program} {x qual : Str} {st : Stmt} {f C g cc cda : Addr} {oc ccl cl : Value} {od an cdd cld : Option Addr} {osl ccs csl : Array (Option Value)} {kV doc pm ct : Value} {vs : Array Value} {file : Str} {tf : Tok} {cd : ClassData}
    (l : K.lookup f = some ⟨oc, od, .func (PySem.W.ksFn x qual (defArgs st) (defBody st) (defScope st) .none kV doc pm an (.ref cda) ct cc), osl⟩) (c : PySem.W.codeIn K (.ref cda) qual = true)
    (h1 : K.lookup cc = some ⟨cl, cld, .cell (some (.ref C)), csl⟩) (h2 : K.lookup cda = some ⟨ccl, cdd, .fields vs, ccs⟩) (h3 : vs[2]? = some (.str file tf)) (h4 : ((P.main.file : Str) == file) = true) (h5 : (P.main.scope.names.lookup ("super" : Str)).isSome = false)
    (h6 : PySem.W.clsIn K C = some cd) (h7 : PySem.W.alongIn K "__init__" ((cd.mro.dropWhile (· != .ref C)).drop 1) = some (some (.ref g))) (h8 : PySem.W.mroIn K C (.ref C) = some true) (h9 : PySem.W.nsIn K cStatics "thirdparty.any" = some none)
    (h10 : PySem.W.typeIn K (.ref g) = some (.type "function")) (h11 : PySem.W.fnIn K g = true) : FunS K P x qual st f C g :=
  ⟨cc, oc, od, kV, doc, pm, an, .ref cda, ct, osl, l, c, ⟨cl, cld, csl, h1⟩, ⟨cda, ccl, cdd, vs, ccs, file, tf, rfl, h2, h3, h4⟩, h5, ⟨cd, h6, h7⟩, h8, h9, h10, h11⟩
structure BlAt (K : PySem.W.Frag) : Prop where
  len : PySem.W.nsIn K mainGlobals "len" = some none
  int : PySem.W.nsIn K mainGlobals "int" = some none
  abs : PySem.W.nsIn K mainGlobals "abs" = some none
  range : PySem.W.nsIn K mainGlobals "range" = some none
  enum : PySem.W.nsIn K mainGlobals "enumerate" = some none
  isi : PySem.W.nsIn K mainGlobals "isinstance" = some none
  str : PySem.W.nsIn K mainGlobals "str" = some none
  list : PySem.W.nsIn K mainGlobals "list" = some none
  tuple : PySem.W.nsIn K mainGlobals "tuple" = some none
  all : PySem.W.nsIn K mainGlobals "all" = some none
  any : PySem.W.nsIn K mainGlobals "any" = some none
  max : PySem.W.nsIn K mainGlobals "max" = some none
  min : PySem.W.nsIn K mainGlobals "min" = some none
  rev : PySem.W.nsIn K mainGlobals "reversed" = some none
  bool : PySem.W.nsIn K mainGlobals "bool" = some none
  repr : PySem.W.nsIn K mainGlobals "repr" = some none
  super : PySem.W.nsIn K mainGlobals "super" = some none
  signs : ∃ t, PySem.W.nsIn K mainGlobals "SIGNS" = some (some (.str "01" t))
  pairs : ∃ t, PySem.W.nsIn K mainGlobals "MOST_PAIRS" = some (some (.int 200 t))
  burns : ∃ t, PySem.W.nsIn K mainGlobals "BURNS" = some (some (.str "1" t))
  dark : ∃ t, PySem.W.nsIn K mainGlobals "DARK" = some (some (.str "0" t))
  listed : ∃ t, PySem.W.nsIn K mainGlobals "MOST_LISTED" = some (some (.int 5000 t))
structure KlAt (K : PySem.W.Frag) (c : Cs) (C : Addr) (nm : Str) (dn wh br : Bool) (fe fb fi : Addr) : Prop where
  pg : PySem.W.plainGet K C Str.empty = true
  hd : PySem.W.hasDictIn K C = true
  po : PySem.W.plainOver K C = true
  sa : PySem.W.findIn K (.ref C) "__setattr__" = some (some (.builtin "object.__setattr__"))
  n1 : PySem.W.findIn K (.ref C) "word" = some none
  n2 : PySem.W.findIn K (.ref C) "parts" = some none
  n3 : PySem.W.findIn K (.ref C) "states" = some none
  n4 : PySem.W.findIn K (.ref C) "at" = some none
  n5 : PySem.W.findIn K (.ref C) "why" = some none
  n6 : PySem.W.findIn K (.ref C) "state" = some none
  reads : PySem.W.readsIn K C (.type "type") = true
  pgc : PySem.W.plainGet K C "__class__" = true
  ha : PySem.W.findIn K (.ref C) "__class__" = some (some (.builtin "object.__class__"))
  hn : PySem.W.specialIn K (.builtin "object.__class__") "__get__" = some (some (.builtin "getset_descriptor.__get__"))
  ht : PySem.W.takesIn K (.builtin "object.__class__") = some true
  hm : PySem.W.mroIn K C (.type "object") = some true
  fnm : PySem.W.findCls K (.ref C) (.type "type") "__name__" = some (.get (.builtin "getset_descriptor.__get__") (.builtin "type.__name__") (.ref C) (.type "type"))
  k1 : PySem.W.kitOne K (.ref C) (.ref c.cp) = some true
  k2 : PySem.W.kitOne K (.ref C) (.ref c.cd) = some dn
  k3 : PySem.W.kitOne K (.ref C) (.ref c.ck) = some false
  k4 : PySem.W.kitOne K (.ref C) (.ref c.cw) = some wh
  k5 : PySem.W.kitOne K (.ref C) (.ref c.cb) = some br
  f1 : PySem.W.notFirst K C (.ref c.cw) = true
  f2 : PySem.W.notFirst K C (.ref c.cb) = true
  f3 : PySem.W.notFirst K C (.ref c.cl) = true
  eq : PySem.W.findIn K (.ref C) "__eq__" = some (some (.ref fe))
  bo : PySem.W.findIn K (.ref C) "__bool__" = some (some (.ref fb))
  mks : PySem.W.makesIn K C = true
  init : PySem.W.findIn K (.ref C) "__init__" = some (some (.ref fi))
  fi : PySem.W.isFn K (.ref fi) = true
  kp : PySem.W.keepIn K (.ref C) = true
structure NmAt (K : PySem.W.Frag) (C : Addr) (nm : Str) : Prop where
  lk : ∃ (c : Value) (d : Option Addr) (cd : ClassData) (sl : Array (Option Value)) (tk : Tok), K.lookup C = some ⟨c, d, .cls cd, sl⟩ ∧ sl[2]? = some (some (.str nm tk))
theorem nmAt_mk {K : PySem.W.Frag} {C : Addr} {nm : Str} {c : Value} {d : Option Addr} {cd : ClassData} {sl : Array (Option Value)} {tk : Tok} (h : K.lookup C = some ⟨c, d, .cls cd, sl⟩) (e : sl[2]? = some (some (.str nm tk))) : NmAt K C nm := ⟨c, d, cd, sl, tk, h, e⟩
structure CsAt (K : PySem.W.Frag) (c : Cs) : Prop where
  p : PySem.W.nsIn K mainGlobals "Paper" = some (some (.ref c.cp))
  d : PySem.W.nsIn K mainGlobals "Denial" = some (some (.ref c.cd))
  k : PySem.W.nsIn K mainGlobals "Walk" = some (some (.ref c.ck))
  w : PySem.W.nsIn K mainGlobals "Whole" = some (some (.ref c.cw))
  b : PySem.W.nsIn K mainGlobals "Broken" = some (some (.ref c.cb))
  l : PySem.W.nsIn K mainGlobals "Lacks" = some (some (.ref c.cl))
structure DefsAt (K : PySem.W.Frag) : Prop where
  fixed : FnAt K "fixed" sFixed
  signs : FnAt K "is_signs" sSigns
  burning : FnAt K "burning" sBurning
  isState : FnAt K "is_state" sIsState
  unlike : FnAt K "unlike_lamps" sUnlike
  brokenIn : FnAt K "broken_in" sBrokenIn
  least : FnAt K "least_state" sLeast
  greater : FnAt K "greater_state" sGreater
  lacking : FnAt K "lacking_in" sLacking
  judgedIn : FnAt K "judged_round_in" sJudgedIn
  need : FnAt K "need_states" sNeed
  jround : FnAt K "judged_round" sJudgedRound
  tells : FnAt K "tells_alike" sTells
  shows : FnAt K "shows_round" sShows
  heap : FnAt K "_law_heap" sHeap
  pick : FnAt K "_law_pick" sPick
  turned : FnAt K "_law_turned" sTurned
  tree : FnAt K "_law_tree" sTree
  right : FnAt K "_law_is_right" sRight
  state : FnAt K "_law_state" sState
  words : FnAt K "_law_all_words" sWords
  switched : FnAt K "_law_switched" sSwitched
  round : FnAt K "_law_states_round" sRound
  isSt : FnAt K "_law_is_state" sIsSt
  judged : FnAt K "_law_judged" sJudged
  told : FnAt K "_law_told" sTold
  spoilt : FnAt K "_law_spoilt" sSpoilt
  differ : FnAt K "_law_differ" sDiffer
  due : FnAt K "_law_round_due" sDue
  bent : FnAt K "_law_bent_back" sBent
structure TxAt (P : Program) (K : PySem.W.Frag) (c : Cs) (gp fe fb fn f1 f2 f3 : Addr) : Prop where
  bl : BlAt K
  cs : CsAt K c
  cw : KlAt K c c.cw "Whole" false true false fe fb f1
  cb : KlAt K c c.cb "Broken" true false true fe fn f2
  cl : KlAt K c c.cl "Lacks" true false false fe fn f3
  nw : NmAt K c.cw "Whole"
  nb : NmAt K c.cb "Broken"
  nl : NmAt K c.cl "Lacks"
  pi : MeAt K "__init__" "Paper.__init__" sPaperInit gp
  pe : MeAt K "__eq__" "Paper.__eq__" sPaperEq fe
  pb : MeAt K "__bool__" "Paper.__bool__" sPaperBool fb
  db : MeAt K "__bool__" "Denial.__bool__" sDenialBool fn
  iw : FunS K P "__init__" "Whole.__init__" sWholeInit f1 c.cw gp
  ib : FunS K P "__init__" "Broken.__init__" sBrokenInit f2 c.cb gp
  il : FunS K P "__init__" "Lacks.__init__" sLacksInit f3 c.cl gp
  ie : PySem.W.isFn K (.ref fe) = true
  ibp : PySem.W.isFn K (.ref fb) = true
  ibn : PySem.W.isFn K (.ref fn) = true
  defs : DefsAt K
section
variable {P : Program} {w : World} {K : PySem.W.Frag} {mg : Str → Option Value} {base : Heap}
theorem bl_of (X : K.In base) (G : base.Ns mainGlobals mg) (B : BlAt K) : Bl mg := by
  have n : ∀ {x : Str}, PySem.W.nsIn K mainGlobals x = some none → mg x = none := fun h => PySem.W.mg_none_of X G h
  refine ⟨n B.len, n B.int, n B.abs, n B.range, n B.enum, n B.isi, n B.str, n B.list, n B.tuple, n B.all, n B.any, n B.max, n B.min, n B.rev, n B.bool, n B.repr, n B.super, ?_, ?_, ?_, ?_, ?_⟩
  · obtain ⟨t, h⟩ := B.signs; exact ⟨_, PySem.W.mg_of X G h, ⟨t, rfl⟩⟩
  · obtain ⟨t, h⟩ := B.pairs; exact ⟨_, PySem.W.mg_of X G h, ⟨t, rfl⟩⟩
  · obtain ⟨t, h⟩ := B.burns; exact ⟨_, PySem.W.mg_of X G h, ⟨t, rfl⟩⟩
  · obtain ⟨t, h⟩ := B.dark; exact ⟨_, PySem.W.mg_of X G h, ⟨t, rfl⟩⟩
  · obtain ⟨t, h⟩ := B.listed; exact ⟨_, PySem.W.mg_of X G h, ⟨t, rfl⟩⟩
theorem KlAt.gd {c : Cs} {C : Addr} {nm : Str} {dn wh br : Bool} {fe fb fi : Addr} (h : KlAt K c C nm dn wh br fe fb fi) : Gd K C := ⟨⟨h.pg, h.hd, h.po, h.sa⟩, h.n1, h.n2, h.n3, h.n4, h.n5, h.n6⟩
theorem KlAt.nm' {c : Cs} {C : Addr} {nm : Str} {dn wh br : Bool} {fe fb fi : Addr} (h : KlAt K c C nm dn wh br fe fb fi) (n : NmAt K C nm) : ClsName K C nm := ⟨h.reads, h.pgc, h.hd, h.ha, h.hn, h.ht, h.hm, h.fnm, n.lk⟩
theorem KlAt.maker {c : Cs} {C : Addr} {nm : Str} {dn wh br : Bool} {fe fb fi : Addr} (h : KlAt K c C nm dn wh br fe fb fi) : Mk K C fi := ⟨h.mks, h.init, h.fi, h.kp⟩
theorem wc_of {c : Cs} {gp fe fb fn f1 f2 f3 : Addr} (X : K.In base) (G : base.Ns mainGlobals mg) (T : TxAt P K c gp fe fb fn f1 f2 f3) : Wc K mg c where
  gd d := by cases d with
    | whole n => exact T.cw.gd
    | broken a y => exact T.cb.gd
    | lacks s => exact T.cl.gd
  nm d := by cases d with
    | whole n => exact T.cw.nm' T.nw
    | broken a y => exact T.cb.nm' T.nb
    | lacks s => exact T.cl.nm' T.nl
  paper d := by cases d with
    | whole n => exact T.cw.k1
    | broken a y => exact T.cb.k1
    | lacks s => exact T.cl.k1
  denial d := by cases d with
    | whole n => exact T.cw.k2
    | broken a y => exact T.cb.k2
    | lacks s => exact T.cl.k2
  walk d := by cases d with
    | whole n => exact T.cw.k3
    | broken a y => exact T.cb.k3
    | lacks s => exact T.cl.k3
  whole d := by cases d with
    | whole n => exact T.cw.k4
    | broken a y => exact T.cb.k4
    | lacks s => exact T.cl.k4
  broken d := by cases d with
    | whole n => exact T.cw.k5
    | broken a y => exact T.cb.k5
    | lacks s => exact T.cl.k5
  nf d e := by
    cases d with
    | whole n => cases e with
      | whole n => exact T.cw.f1
      | broken a y => exact T.cw.f2
      | lacks s => exact T.cw.f3
    | broken a y => cases e with
      | whole n => exact T.cb.f1
      | broken a y => exact T.cb.f2
      | lacks s => exact T.cb.f3
    | lacks s => cases e with
      | whole n => exact T.cl.f1
      | broken a y => exact T.cl.f2
      | lacks s => exact T.cl.f3
  mgp := PySem.W.mg_of X G T.cs.p
  mgd := PySem.W.mg_of X G T.cs.d
  mgk := PySem.W.mg_of X G T.cs.k
  mgw := PySem.W.mg_of X G T.cs.w
  mgb := PySem.W.mg_of X G T.cs.b
  mgl := PySem.W.mg_of X G T.cs.l
theorem raw0 {k : Nat} {f : Addr} {fd : FuncData} {ps : List Str} {sp : Sp} (F : FnOk P w K mg base CX0 k f fd ps sp) (hb : Binds K fd ps []) : FnR P w K mg base CX0 k f sp :=
  FnR.imp (F.raw hb .nil) fun vs H Q E h => by rw [List.append_nil]; exact h
theorem wm_of {c : Cs} {gp fe fb fn f1 f2 f3 : Addr} (X : K.In base) (G : base.Ns mainGlobals mg) (T : TxAt P K c gp fe fb fn f1 f2 f3) : Wm P w K mg base c := by
  have B := bl_of X G T.bl
  have W := wc_of X G T
  obtain ⟨fdE, FE⟩ := T.pe.ex
  obtain ⟨fdB, FB⟩ := T.pb.ex
  obtain ⟨fdN, FN⟩ := T.db.ex
  have bE := FE.binds (ps := ["self", "other"]) fun _ _ _ _ _ _ us hl => match us, hl with | [_, _], _ => rfl
  have bB := FB.binds (ps := ["self"]) fun _ _ _ _ _ _ us hl => match us, hl with | [_], _ => rfl
  have bN := FN.binds (ps := ["self"]) fun _ _ _ _ _ _ us hl => match us, hl with | [_], _ => rfl
  refine ⟨⟨fe, T.ie, raw0 (ok_paperEq FE B W) bE, fun d => ?_⟩, fun d => ?_⟩
  · cases d with
    | whole n => exact T.cw.eq
    | broken a y => exact T.cb.eq
    | lacks s => exact T.cl.eq
  · cases d with
    | whole n => exact ⟨fb, T.cw.bo, T.ibp, raw0 (ok_paperBool FB) bB⟩
    | broken a y => exact ⟨fn, T.cb.bo, T.ibn, raw0 (ok_denialBool FN) bN⟩
    | lacks s => exact ⟨fn, T.cl.bo, T.ibn, raw0 (ok_denialBool FN) bN⟩
theorem wn_of {c : Cs} {gp fe fb fn f1 f2 f3 : Addr} (X : K.In base) (G : base.Ns mainGlobals mg) (T : TxAt P K c gp fe fb fn f1 f2 f3) : Wn P w K mg base c := by
  have B := bl_of X G T.bl
  obtain ⟨fF, fdF, gF, FF⟩ := T.defs.fixed.ex
  obtain ⟨fdI, FI⟩ := T.pi.ex
  have bF := FF.binds (ps := ["value"]) fun _ _ _ _ _ _ us hl => match us, hl with | [_], _ => rfl
  have GI : FnR P w K mg base CX0 3 gp (spPI K) := ok_paperInit FI B FF bF (PySem.W.mg_of X G gF)
  exact ⟨⟨f1, T.cw.maker, ok_wholeInit T.iw B.super GI⟩, ⟨f2, T.cb.maker, ok_brokenInit T.ib B.super GI⟩, ⟨f3, T.cl.maker, ok_lacksInit T.il B.super GI⟩⟩
theorem lw_of {c : Cs} {gp fe fb fn f1 f2 f3 : Addr} (X : K.In base) (G : base.Ns mainGlobals mg) (T : TxAt P K c gp fe fb fn f1 f2 f3) : Lw P w K mg base c := by
  have B := bl_of X G T.bl
  have W := wc_of X G T
  have M : Wm P w K mg base c := wm_of X G T
  have N : Wn P w K mg base c := wn_of X G T
  have D := T.defs
  have g : ∀ {x : Str} {v : Value}, PySem.W.nsIn K mainGlobals x = some (some v) → mg x = some v := fun h => PySem.W.mg_of X G h
  obtain ⟨fSg, fdSg, gSg, FSg⟩ := D.signs.ex
  obtain ⟨fBu, fdBu, gBu, FBu⟩ := D.burning.ex
  obtain ⟨fIs, fdIs, gIs, FIs⟩ := D.isState.ex
  obtain ⟨fUn, fdUn, gUn, FUn⟩ := D.unlike.ex
  obtain ⟨fBr, fdBr, gBr, FBr⟩ := D.brokenIn.ex
  obtain ⟨fLe, fdLe, gLe, FLe⟩ := D.least.ex
  obtain ⟨fGr, fdGr, gGr, FGr⟩ := D.greater.ex
  obtain ⟨fLa, fdLa, gLa, FLa⟩ := D.lacking.ex
  obtain ⟨fJi, fdJi, gJi, FJi⟩ := D.judgedIn.ex
  obtain ⟨fNe, fdNe, gNe, FNe⟩ := D.need.ex
  obtain ⟨fJr, fdJr, gJr, FJr⟩ := D.jround.ex
  obtain ⟨fTe, fdTe, gTe, FTe⟩ := D.tells.ex
  obtain ⟨fSh, fdSh, gSh, FSh⟩ := D.shows.ex
  obtain ⟨fHe, fdHe, gHe, FHe⟩ := D.heap.ex
  obtain ⟨fPi, fdPi, gPi, FPi⟩ := D.pick.ex
  obtain ⟨fTu, fdTu, gTu, FTu⟩ := D.turned.ex
  obtain ⟨fTr, fdTr, gTr, FTr⟩ := D.tree.ex
  obtain ⟨fRi, fdRi, gRi, FRi⟩ := D.right.ex
  obtain ⟨fSt, fdSt, gSt, FSt⟩ := D.state.ex
  obtain ⟨fWo, fdWo, gWo, FWo⟩ := D.words.ex
  obtain ⟨fSw, fdSw, gSw, FSw⟩ := D.switched.ex
  obtain ⟨fRo, fdRo, gRo, FRo⟩ := D.round.ex
  obtain ⟨fI2, fdI2, gI2, FI2⟩ := D.isSt.ex
  obtain ⟨fJu, fdJu, gJu, FJu⟩ := D.judged.ex
  obtain ⟨fTo, fdTo, gTo, FTo⟩ := D.told.ex
  obtain ⟨fSp, fdSp, gSp, FSp⟩ := D.spoilt.ex
  obtain ⟨fDi, fdDi, gDi, FDi⟩ := D.differ.ex
  obtain ⟨fDu, fdDu, gDu, FDu⟩ := D.due.ex
  obtain ⟨fBe, fdBe, gBe, FBe⟩ := D.bent.ex
  have bSg := FSg.binds (ps := ["value"]) fun _ _ _ _ _ _ us hl => match us, hl with | [_], _ => rfl
  have bBu := FBu.binds (ps := ["signs"]) fun _ _ _ _ _ _ us hl => match us, hl with | [_], _ => rfl
  have bIs := FIs.binds (ps := ["value"]) fun _ _ _ _ _ _ us hl => match us, hl with | [_], _ => rfl
  have bUn := FUn.binds (ps := ["one", "other"]) fun _ _ _ _ _ _ us hl => match us, hl with | [_, _], _ => rfl
  have bBr := FBr.binds (ps := ["states"]) fun _ _ _ _ _ _ us hl => match us, hl with | [_], _ => rfl
  have bLe := FLe.binds (ps := ["front", "lamps"]) fun _ _ _ _ _ _ us hl => match us, hl with | [_, _], _ => rfl
  have bGr := FGr.binds (ps := ["state"]) fun _ _ _ _ _ _ us hl => match us, hl with | [_], _ => rfl
  have bLa := FLa.binds (ps := ["states"]) fun _ _ _ _ _ _ us hl => match us, hl with | [_], _ => rfl
  have bJi := FJi.binds (ps := ["states"]) fun _ _ _ _ _ _ us hl => match us, hl with | [_], _ => rfl
  have bNe := FNe.binds (ps := ["value"]) fun _ _ _ _ _ _ us hl => match us, hl with | [_], _ => rfl
  have bJr := FJr.binds (ps := ["states"]) fun _ _ _ _ _ _ us hl => match us, hl with | [_], _ => rfl
  have bTe := FTe.binds (ps := ["value", "paper"]) fun _ _ _ _ _ _ us hl => match us, hl with | [_, _], _ => rfl
  have bSh := FSh.binds (ps := ["states", "value"]) fun _ _ _ _ _ _ us hl => match us, hl with | [_, _], _ => rfl
  have bHe := FHe.binds (ps := ["_law_script"]) fun _ _ _ _ _ _ us hl => match us, hl with | [_], _ => rfl
  have bPi := FPi.binds (ps := ["_law_heap_here", "_law_many"]) fun _ _ _ _ _ _ us hl => match us, hl with | [_, _], _ => rfl
  have bTu := FTu.binds (ps := ["_law_word_here"]) fun _ _ _ _ _ _ us hl => match us, hl with | [_], _ => rfl
  have bTr := FTr.binds (ps := ["_law_word_here"]) fun _ _ _ _ _ _ us hl => match us, hl with | [_], _ => rfl
  have bRi := FRi.binds (ps := ["_law_word_here"]) fun _ _ _ _ _ _ us hl => match us, hl with | [_], _ => rfl
  have bSt := FSt.binds (ps := ["_law_word_here", "_law_shift", "_law_sign"]) fun _ _ _ _ _ _ us hl => match us, hl with | [_, _, _], _ => rfl
  have bWo := FWo.binds (ps := ["_law_pairs"]) fun _ _ _ _ _ _ us hl => match us, hl with | [_], _ => rfl
  have bSw := FSw.binds (ps := ["_law_state_here", "_law_lamp"]) fun _ _ _ _ _ _ us hl => match us, hl with | [_, _], _ => rfl
  have bRo := FRo.binds (ps := ["_law_pairs"]) fun _ _ _ _ _ _ us hl => match us, hl with | [_], _ => rfl
  have bI2 := FI2.binds (ps := ["_law_value"]) fun _ _ _ _ _ _ us hl => match us, hl with | [_], _ => rfl
  have bJu := FJu.binds (ps := ["_law_states"]) fun _ _ _ _ _ _ us hl => match us, hl with | [_], _ => rfl
  have bTo := FTo.binds (ps := ["_law_paper"]) fun _ _ _ _ _ _ us hl => match us, hl with | [_], _ => rfl
  have bSp := FSp.binds (ps := ["_law_heap_here", "_law_states"]) fun _ _ _ _ _ _ us hl => match us, hl with | [_, _], _ => rfl
  have bDi := FDi.binds (ps := ["_law_one", "_law_other"]) fun _ _ _ _ _ _ us hl => match us, hl with | [_, _], _ => rfl
  have bDu := FDu.binds (ps := ["_law_states", "_law_pairs"]) fun _ _ _ _ _ _ us hl => match us, hl with | [_, _], _ => rfl
  have bBe := FBe.binds (ps := ["_law_heap_here", "_law_states"]) fun _ _ _ _ _ _ us hl => match us, hl with | [_, _], _ => rfl
  have kJr : KBinds K fdJr ["states"] ["states"] (fun us ws => us ++ ws) (fun us ws => us ++ ws) := by
    obtain ⟨oc, od, kV, doc, pm, an, cdv, ct, osl, rfl, lk, hcd⟩ := FJr.ex
    refine ⟨fun s us ws _ hl => ?_, fun r1 r2 => r1.append r2⟩
    match us, ws, hl with
    | [u], [], _ => exact .of_eq rfl
    | [], [z], _ => exact .of_eq rfl
    | [], [], hl => cases hl
    | u :: v :: us, ws, hl => rw [List.length_append, List.length_cons, List.length_cons] at hl; exact absurd hl (by show ¬ _ = 1; omega)
    | [u], z :: ws, hl => rw [List.length_append, List.length_cons, List.length_cons] at hl; exact absurd hl (by show ¬ _ = 1; simp)
    | [], z :: y :: ws, hl => rw [List.length_append, List.length_cons, List.length_cons] at hl; exact absurd hl (by show ¬ _ = 1; omega)
  have GIs : FnOk P w K mg base CX0 2 fIs fdIs ["value"] (spVB isStV) := ok_isState FIs B FSg bSg (g gSg) FBu bBu (g gBu)
  have GLe : FnOk P w K mg base CX0 2 fLe fdLe ["front", "lamps"] spLeast := ok_least FLe B FBu bBu (g gBu)
  have GGr : FnOk P w K mg base CX0 3 fGr fdGr ["state"] spGr := ok_greater FGr B FBu bBu (g gBu) FLe bLe (g gLe)
  have GLa : FnOk P w K mg base CX0 4 fLa fdLa ["states"] spLack := ok_lack FLa B GLe FLe.kp bLe (g gLe) GGr FGr.kp bGr (g gGr)
  have GBr : FnOk P w K mg base CX0 6 fBr fdBr ["states"] (spBroken c) := ok_broken FBr B W N GIs FIs.kp bIs (g gIs) FUn bUn (g gUn)
  have GJi : FnOk P w K mg base CX0 7 fJi fdJi ["states"] (spJr c) := ok_jr FJi B W N GBr FBr.kp bBr (g gBr) GLa FLa.kp bLa (g gLa) FUn bUn (g gUn)
  have GTe : FnOk P w K mg base CX0 2 fTe fdTe ["value", "paper"] (spAlike c) := ok_alike FTe B W M
  have GJu : FnOk P w K mg base CX0 2 fJu fdJu ["_law_states"] spJudged := ok_judged FJu B FI2 bI2 (g gI2)
  exact {
    bl := B
    wn := N
    mw := W.mgw
    mb := W.mgb
    gw := T.cw.gd
    gb := T.cb.gd
    heap := ⟨_, _, ok_heap FHe B, FHe.kp, bHe, g gHe⟩
    pick := ⟨_, _, ok_pick FPi B, FPi.kp, bPi, g gPi⟩
    round := ⟨_, _, ok_round FRo B FWo bWo (g gWo) FRi bRi (g gRi) FTr bTr (g gTr) FSt bSt (g gSt) FTu bTu (g gTu), FRo.kp, bRo, g gRo⟩
    bent := ⟨_, _, ok_bent FBe B FPi bPi (g gPi) FDi bDi (g gDi), FBe.kp, bBe, g gBe⟩
    spoilt := ⟨_, _, ok_spoilt FSp B FPi bPi (g gPi) FSw bSw (g gSw), FSp.kp, bSp, g gSp⟩
    due := ⟨_, _, ok_due FDu B GJu FJu.kp bJu (g gJu) FI2 bI2 (g gI2) FDi bDi (g gDi), FDu.kp, bDu, g gDu⟩
    told := ⟨_, _, ok_told FTo B W M, FTo.kp, bTo, g gTo⟩
    judged := ⟨_, _, ok_jround FJr B FNe bNe (g gNe) GJi FJi.kp bJi (g gJi), FJr.kp, bJr, kJr, g gJr⟩
    shows := ⟨_, _, ok_shows FSh B FNe bNe (g gNe) GJi FJi.kp bJi (g gJi) GTe FTe.kp bTe (g gTe), FSh.kp, bSh, g gSh⟩ }
end
end Ev
namespace Ev
open PySem PySem.Spec PyProof.Rows L2
theorem law_fn {K : PySem.W.Frag} {mg : Str → Option Value} {h : Heap} {fa : Addr} (X : K.In h) (G : h.Ns mainGlobals mg) (hfa : mg "law" = some (.ref fa)) (F : FnAt K "law" sLaw) : ∃ fd : FuncData, Fun K "law" "law" sLaw fa fd := by
  obtain ⟨f, fd, a, F⟩ := F.ex
  have e := hfa.symm.trans (PySem.W.mg_of X G a)
  cases e
  exact ⟨fd, F⟩
end Ev
open PySem PySem.W PyProof.Rows
set_option maxRecDepth 100000 in
set_option maxHeartbeats 0 in
theorem PySem.Challenge.cw_everyhalf_k68_whole_rounds_judged_holds : PySem.Challenge.rw_everyhalf_k68_whole_rounds_judged.Holds := by
  w_on; o_law; k_head; (case hw => w_witness2)
  k_fill
  refine Ev.walk (l := PySem.Challenge.rw_everyhalf_k68_whole_rounds_judged) rfl rfl (fun w h Y => PySem.W.kIn_of Y) ?F
  case F =>
    intro w mg fa h KX G hmg
    refine ⟨Ev.law_fn KX G hmg ?L, fun base X2 G2 => ⟨⟨84, 105, 143, 164, 185, 206⟩, Ev.lw_of (gp := 67) (fe := 81) (fb := 74) (fn := 102) (f1 := 161) (f2 := 182) (f3 := 203) X2 G2 ?T⟩⟩
    case L =>
      exact Ev.fnAt_mk (by k_is) (by k_is) (by k_is) (by k_is)
    case T =>
      refine' Ev.TxAt.mk ?bl ?cs ?cw ?cb ?cl ?nw ?nb ?nl ?pi ?pe ?pb ?db ?iw ?ib ?il ?ie ?ibp ?ibn ?defs
      case bl => constructor <;> first | k_is | exact ⟨_, by k_is⟩
      case cs => constructor <;> k_is
      case cw => constructor <;> first | k_is | kernel_rfl
      case cb => constructor <;> first | k_is | kernel_rfl
      case cl => constructor <;> first | k_is | kernel_rfl
      case nw => exact Ev.nmAt_mk (by k_is) (by exact rfl)
      case nb => exact Ev.nmAt_mk (by k_is) (by exact rfl)
      case nl => exact Ev.nmAt_mk (by k_is) (by exact rfl)
      case pi => exact Ev.meAt_mk (by k_is) (by k_is) (by k_is)
      case pe => exact Ev.meAt_mk (by k_is) (by k_is) (by k_is)
      case pb => exact Ev.meAt_mk (by k_is) (by k_is) (by k_is)
      case db => exact Ev.meAt_mk (by k_is) (by k_is) (by k_is)
      case iw =>
        exact Ev.funS_mk (by k_is) (by k_is) (by k_is) (by k_is) (by exact rfl) (by exact rfl) (by exact rfl) (by k_is) (by kernel_rfl) (by k_is) (by k_is) (by k_is) (by k_is)
      case ib =>
        exact Ev.funS_mk (by k_is) (by k_is) (by k_is) (by k_is) (by exact rfl) (by exact rfl) (by exact rfl) (by k_is) (by kernel_rfl) (by k_is) (by k_is) (by k_is) (by k_is)
      case il =>
        exact Ev.funS_mk (by k_is) (by k_is) (by k_is) (by k_is) (by exact rfl) (by exact rfl) (by exact rfl) (by k_is) (by kernel_rfl) (by k_is) (by k_is) (by k_is) (by k_is)
      case ie => k_is
      case ibp => k_is
      case ibn => k_is
      case defs =>
        constructor <;> exact Ev.fnAt_mk (by k_is) (by k_is) (by k_is) (by k_is)
