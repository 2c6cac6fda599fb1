import PyProof.Rows.All
import Wide.All
import OpenK.AllK
import Wide.FinOn
import KE.KStateDown
import Lean
import HandS.ForMost
import HandS.IsInst
import HandS.Wide
import HandS.WideBits
import HandS.Defaults
import HandS.HeadHook1
import HandS.HeadHook2
import HandS.Walk
import HandS.Style
import HandS.Dict
import HandS.Iter
import HandS.OwnEq
import HandS.More
import KE.KOpsOwn
import PyProof.NeKinds
import HandS.Head0
import HandS.Head1
import HandS.Head2
import HandS.HeadEnd
import KE.KDictZip
import KE.KTurns
import HandS.SetBool
import HandS.Set
import HandS.Strs
import KE.SortData
import PyProof.Rows.SortShell
import HandS.SortRule
import PyProof.EqAt
import HandS.Text
import PyProof.StrOps2
import PySem.Challenge.RW_dealtsums_k58_whole_one_chain_of_bounds
set_option Elab.async false
set_option linter.all false
set_option maxRecDepth 100000
set_option maxHeartbeats 0
set_option exponentiation.threshold 256
/-! What the program's functions compute, in plain Lean (no program in sight). A Worth is told by its tenths. -/
namespace KX
inductive Way where
  | he | fl | hu | cu | ha
  deriving DecidableEq
abbrev Ent := List (Int × Int)
def b2z (b : Bool) : Int := if b then 1 else 0
/-- the fields of a Worth of n tenths -/
def wu (n : Int) : Int := if n % 10 = 0 then n / 10 else n
def wsc (n : Int) : Int := if n % 10 = 0 then 0 else 1
/-- u units at the scale 0 or 1, in tenths -/
def tn (u s : Int) : Int := if s = 0 then 10 * u else u
/-- the unit that the units are parts of -/
def un (n : Int) : Int := if n % 10 = 0 then 1 else 10
def sgn (n : Int) : Int := b2z (decide (0 < n)) - b2z (decide (n < 0))
/-- min(i, j), max(i, j) -/
def mn (i j : Int) : Int := if j < i then j else i
def mx (i j : Int) : Int := if j > i then j else i
def liftF (w : Way) (part : Int) (neg odd : Bool) : Int :=
  if part = 0 then 0 else match w with
  | .fl => 0
  | .cu => b2z neg
  | .hu => if part = 2 then 1 else b2z (decide (part = 3))
  | .he => if part = 2 then b2z odd else b2z (decide (part = 3))
  | .ha => if part = 2 then b2z (!neg) else b2z (decide (part = 3))
def partF (l d : Int) : Int := if l = 0 then 0 else 2 + b2z (decide (d < 2 * l)) - b2z (decide (2 * l < d))
def divF (x d : Int) (w : Way) : Int := x / d + liftF w (partF (x % d) d) (decide (x < 0)) (decide (x / d % 2 = 1))
def looseF (w : Way) (n : Int) : Bool := match w with
  | .cu => decide (wu n % un n ≠ 0)
  | .he => decide (2 * (wu n % un n) = un n)
  | .ha => decide (2 * (wu n % un n) = un n)
  | _ => false
def unitF (w : Way) (n : Int) : Int := if looseF w n then wu n / un n else divF (wu n) (un n) w
/-- added(state, True, units, way) -/
def addF (w : Way) (st u : Int) : Int := match w with
  | .he => st + u + (st + u) % 2
  | _ => st + u + b2z (decide (st + u < 0) == decide (w = .cu))
def oftF (w : Way) (st u t : Int) : Int := match w with
  | .he => addF .he st u + (t - 1) * (u + u % 2)
  | _ =>
    let gap := st + u
    let step := addF w st u - st
    let turns := if gap < 0 ∧ 0 < step then mn t ((step - 1 - gap) / step) else if 0 ≤ gap ∧ step < 0 then mn t (gap / (-step) + 1) else t
    st + turns * step + (t - turns) * (2 * u + 1 - step)
/-- one run of t of the part p, behind st -/
def cst (w : Way) (st : Int) (p : Bool × Int) (t : Int) : Int := if !p.1 then st + t * p.2 else if 0 < t then oftF w st p.2 t else st
def prt (w : Way) (n : Int) : Bool × Int := (looseF w n, unitF w n)
def cntF (w : Way) (ps : List (Bool × Int)) (ts : List Int) : Int := (ps.zip ts).foldl (fun st q => cst w st q.1 q.2) 0
def runF (w : Way) (es : Ent) : Int := es.foldl (fun st e => cst w st (prt w e.1) e.2) 0
def freeF (w : Way) (es : Ent) : Bool :=
  let th := (es.filter fun e => decide (0 < e.2)).map (·.1)
  !(th.any (looseF w)) || (decide (w = .cu ∨ w = .ha) && (th.all (fun n => decide (0 ≤ sgn n)) || th.all (fun n => decide (sgn n ≤ 0))))
def singF (w : Way) (es : Ent) : Int := es.foldl (fun s e => s + e.2 * divF (wu e.1) (un e.1) w) 0
def endStep (s : Int × Int × Int × Int) (e : Int × Int) : Int × Int × Int × Int :=
  (s.1 + e.2 * unitF .he e.1,
   if looseF .he e.1 = true ∧ unitF .he e.1 % 2 = 0 then s.2.1 + e.2 else s.2.1,
   if looseF .he e.1 = true ∧ unitF .he e.1 % 2 ≠ 0 then s.2.2.1 + e.2 else s.2.2.1,
   if looseF .he e.1 = true then s.2.2.2 else s.2.2.2 + e.2 * (unitF .he e.1 % 2))
def endF (es : Ent) : Int × Int × Int × Int := es.foldl endStep (0, 0, 0, 0)
def endLo (es : Ent) : Int := (endF es).1 + (endF es).2.2.1 - mn (endF es).2.2.1 (endF es).2.2.2
def endHi (es : Ent) : Int := (endF es).1 + (endF es).2.2.1 + mn (endF es).2.1 (endF es).2.2.2
def ahead (w : Way) : Int := if w = .cu then -1 else 1
/-- sided_top of entries of one sign -/
def topF (w : Way) (es : Ent) : Int := es.foldl (fun s e => s + e.2 * unitF w e.1 + (if sgn e.1 = ahead w then e.2 * b2z (looseF w e.1) else 0)) 0
def negE (es : Ent) : Ent := es.map fun e => (-e.1, e.2)
def ordLo (w : Way) (es : Ent) : Int := match w with
  | .he => endLo es
  | .cu => -(topF .cu (negE es))
  | .ha => -(topF .ha (negE es))
  | w => runF w es
def ordHi (w : Way) (es : Ent) : Int := match w with
  | .he => endHi es
  | .cu => topF .cu es
  | .ha => topF .ha es
  | w => runF w es
/-! giving -/
inductive Kd where
  | od | ev | tu
  deriving DecidableEq
def runStep (s : Int × List (Kd × Int)) (e : Int × Int) : Int × List (Kd × Int) :=
  let u := unitF .he e.1
  if looseF .he e.1 = true ∧ 0 < e.2 then (s.1 + e.2 * u + e.2 * (u % 2), s.2 ++ [(if u % 2 = 1 then Kd.od else Kd.ev, e.2)])
  else if u % 2 = 1 ∧ 0 < e.2 then
    match s.2.getLast? with
    | some (.tu, t) => (s.1 + e.2 * u, s.2.set (s.2.length - 1) (.tu, t + e.2))
    | _ => (s.1 + e.2 * u, s.2 ++ [(.tu, e.2)])
  else (s.1 + e.2 * u, s.2)
def runsF (es : Ent) : Int × List (Kd × Int) := es.foldl runStep (0, [])
def oddHF (od t P : Int) (av : Bool) : Int :=
  let m0 := mn P (od + t)
  let m := m0 - (od + t - m0) % 2
  if av = true ∧ m = P ∧ 1 < P then m - 2 else m
def bestGo (P : Int) : List (Kd × Int) → Int → Int → Int
  | [], tot, _ => tot
  | (k, t) :: r, tot, od => match k with
    | .tu => bestGo P r tot (oddHF od t P (match r with | (.od, _) :: _ => true | _ => false))
    | .ev => bestGo P r (tot + mn od t) (od - mn od t)
    | .od => if P = 1 ∧ od = 1 then bestGo P r (tot - 1) 0 else bestGo P r tot od
def bestF (es : Ent) (P : Int) : Int := bestGo P (runsF es).2 (runsF es).1 0
def givLo (w : Way) (es : Ent) (P : Int) : Int := match w with
  | .he => -(bestF (negE es) P)
  | w => runF w es
def givHi (w : Way) (es : Ent) (P : Int) : Int := match w with
  | .he => bestF es P
  | w => runF w es
/-- the least of lo .. hi at which p holds, found by halving -/
def bsF (p : Int → Bool) : Nat → Int → Int → Int
  | 0, lo, _ => lo
  | n + 1, lo, hi => if lo < hi then (if p ((lo + hi) / 2) then bsF p n lo ((lo + hi) / 2) else bsF p n ((lo + hi) / 2 + 1) hi) else lo
def topP (es : Ent) : Int := 2 + (es.map (·.2)).sum
def enoF (es : Ent) : Int := bsF (fun m => decide (bestF es m = bestF es (topP es))) (topP es - 1).toNat 1 (topP es)
/-! deals -/
def belowF (p l b : Int) : Int := l * (b / p) + mn (b % p) l
def mkb (b P : Int) : Int := if 1 < P then b else 1
def formStep (s : Ent) (e : Int × Int) : Ent :=
  if 0 < e.2 then match s.getLast? with
    | some (n, t) => if n = e.1 then s.set (s.length - 1) (e.1, t + e.2) else s ++ [e]
    | none => s ++ [e]
  else s
def formF (es : Ent) : Ent := es.foldl formStep []
def bordF (ts : List Int) : List Int := ts.foldl (fun s t => s ++ [s.getLast?.getD 0 + t]) [0]
def countsF (bs : List Int) (b P a h : Int) : List Int :=
  let held := bs.map fun x => belowF (b * P) b (x + (a - h * b))
  (List.range (held.length - 1)).map fun i => held.getD (i + 1) 0 - held.getD i 0
def insZ (x : Int) : List Int → List Int
  | [] => [x]
  | y :: l => if x < y then x :: y :: l else if x = y then y :: l else y :: insZ x l
def ssort : List Int → List Int
  | [] => []
  | x :: l => insZ x (ssort l)
theorem mem_insZ {x k : Int} : ∀ {l : List Int}, k ∈ insZ x l ↔ k = x ∨ k ∈ l
  | [] => by simp [insZ]
  | y :: l => by
    unfold insZ
    split
    · simp
    · split
      · rename_i h1 h2
        subst h2
        simp
      · rw [List.mem_cons, mem_insZ, List.mem_cons]
        constructor
        · rintro (h | h | h)
          · exact .inr (.inl h)
          · exact .inl h
          · exact .inr (.inr h)
        · rintro (h | h | h)
          · exact .inr (.inl h)
          · exact .inl h
          · exact .inr (.inr h)
theorem insZ_sorted {x : Int} : ∀ {l : List Int}, l.Pairwise (· < ·) → (insZ x l).Pairwise (· < ·)
  | [], _ => List.pairwise_singleton _ _
  | y :: l, h => by
    obtain ⟨h1, h2⟩ := List.pairwise_cons.mp h
    unfold insZ
    split
    · rename_i q
      refine List.pairwise_cons.mpr ⟨fun z hz => ?_, h⟩
      rcases List.mem_cons.mp hz with e | e
      · rw [e]; exact q
      · have := h1 z e; omega
    · split
      · exact h
      · rename_i q1 q2
        refine List.pairwise_cons.mpr ⟨fun z hz => ?_, insZ_sorted h2⟩
        rcases mem_insZ.mp hz with e | e
        · omega
        · exact h1 z e
theorem mem_ssort {k : Int} : ∀ {l : List Int}, k ∈ ssort l ↔ k ∈ l
  | [] => Iff.rfl
  | x :: l => by
    unfold ssort
    rw [mem_insZ, mem_ssort, List.mem_cons]
theorem ssort_sorted : ∀ l : List Int, (ssort l).Pairwise (· < ·)
  | [] => List.Pairwise.nil
  | x :: l => insZ_sorted (ssort_sorted l)
theorem sorted_uniq : ∀ {a b : List Int}, a.Pairwise (· < ·) → b.Pairwise (· < ·) → (∀ k, k ∈ a ↔ k ∈ b) → a = b
  | [], [], _, _, _ => rfl
  | [], y :: b, _, _, h => absurd ((h y).mpr List.mem_cons_self) (by simp)
  | x :: a, [], _, _, h => absurd ((h x).mp List.mem_cons_self) (by simp)
  | x :: a, y :: b, ha, hb, h => by
    obtain ⟨a1, a2⟩ := List.pairwise_cons.mp ha
    obtain ⟨b1, b2⟩ := List.pairwise_cons.mp hb
    have e : x = y := by
      rcases List.mem_cons.mp ((h x).mp List.mem_cons_self) with e | e
      · exact e
      · rcases List.mem_cons.mp ((h y).mpr List.mem_cons_self) with e2 | e2
        · exact e2.symm
        · have := b1 x e
          have := a1 y e2
          omega
    subst e
    congr 1
    refine sorted_uniq a2 b2 fun k => ⟨fun hk => ?_, fun hk => ?_⟩
    · rcases List.mem_cons.mp ((h k).mp (List.mem_cons_of_mem _ hk)) with e | e
      · have := a1 k hk; omega
      · exact e
    · rcases List.mem_cons.mp ((h k).mpr (List.mem_cons_of_mem _ hk)) with e | e
      · have := b1 k hk; omega
      · exact e
theorem ssort_len : ∀ l : List Int, (ssort l).length ≤ l.length := by
  have q : ∀ (x : Int) (l : List Int), (insZ x l).length ≤ l.length + 1 := by
    intro x l
    induction l with
    | nil => exact Nat.le_refl _
    | cons y l ih =>
      unfold insZ
      split
      · simp
      · split
        · simp
        · simp only [List.length_cons]; omega
  intro l
  induction l with
  | nil => exact Nat.le_refl _
  | cons x l ih =>
    have := q x (ssort l)
    show (insZ x (ssort l)).length ≤ l.length + 1
    omega
def specF (bs : List Int) (b P a : Int) : List Int := bs.map fun x => (x + a) / b % P
def firstsF (bs : List Int) (b P a : Int) : List Int := ssort (([0] ++ specF bs b P a ++ (specF bs b P a).map (· + 1)).filter fun p => decide (p < P))
def strF (bs : List Int) (b P a : Int) : List (Int × Int) := (firstsF bs b P a).zip ((firstsF bs b P a).drop 1 ++ [P])
def dealF (w : Way) (bs : List Int) (ps : List (Bool × Int)) (b P a : Int) : Int := (strF bs b P a).foldl (fun s q => s + (q.2 - q.1) * cntF w ps (countsF bs b P a q.1)) 0
def bordE (es : Ent) : List Int := bordF (es.map (·.2))
def prtE (w : Way) (es : Ent) : List (Bool × Int) := es.map fun e => prt w e.1
/-- dealt_total of the runs, by the deal's own block, houses, shift -/
def dtotF (w : Way) (es : Ent) (b P a : Int) : Int := dealF w (bordE (formF es)) (prtE w (formF es)) b P a
def brkF (bs : List Int) (b : Int) : List Int := ssort ([0] ++ (bs.filter fun x => decide (x % b ≠ 0)).map fun x => b - x % b)
def pieF (bs : List Int) (b : Int) : List (Int × Int) := (brkF bs b).zip ((brkF bs b).drop 1 ++ [b])
def valsF (w : Way) (rs : Ent) (b P : Int) : List (Int × Int × Int) := (pieF (bordE rs) b).flatMap fun q =>
  (List.range (mn 3 (q.2 - q.1)).toNat).map fun (k : Nat) =>
    (dealF w (bordE rs) (prtE w rs) (mkb b P) P ((q.1 + k) % (mkb b P * P)), q.1 + (k : Int), if (k : Int) ≠ 0 then (q.2 - q.1 - k + 1) / 2 else 1)
def putZ (kvs : List (Int × Int)) (k v : Int) : List (Int × Int) := if (kvs.any fun p => decide (p.1 = k)) = true then kvs.map (fun p => if p.1 = k then (p.1, v) else p) else kvs ++ [(k, v)]
def getZ (kvs : List (Int × Int)) (k : Int) : Option Int := (kvs.find? fun p => decide (p.1 = k)).map (·.2)
def cntsF (vs : List (Int × Int × Int)) : List (Int × Int) := vs.foldl (fun s v => putZ s v.1 ((getZ s v.1).getD 0 + v.2.2)) []
def sortT (bs : List (List Int)) : List (List Int) := bs.mergeSort (fun p q => decide (p ≤ q))
/-- shift_totals: the totals, rising, with how many shifts have each -/
def srt1 (ks : List Int) : List Int := ks.mergeSort (fun p q => decide (p ≤ q))
def told (w : Way) (es : Ent) (b P : Int) : List (Int × Int) :=
  let c := cntsF (valsF w (formF es) b P)
  (srt1 (c.map (·.1))).map fun u => (u, (getZ c u).getD 0)
def leastF (w : Way) (es : Ent) (b P : Int) : List Int := (sortT ((valsF w (formF es) b P).map fun v => [v.1, v.2.1, v.2.2])).headD []
def greatF (w : Way) (es : Ent) (b P : Int) : List Int := (sortT ((valsF w (formF es) b P).map fun v => [-v.1, v.2.1])).headD []
end KX
/-! A calculus of plain data over the hand layer: data D, how a value stands for it (Rep), expressions (ED), tests (ET), arguments (EA), statements (ES). -/
namespace KX
open PySem PySem.Spec PyProof.Rows L2

/-- plain data: wt n is a Worth of n tenths (n at its own scale), deal b P a a Deal -/
inductive D where
  | non | bl (b : Bool) | int (i : Int) | str (s : Str) | wt (n : Int) | deal (b P a : Int) | lst (l : List D) | tup (l : List D) | ty (n : String) | adr (a : Addr) | sd (kvs : List (Str × Bool))

def encS (kvs : List (Str × Bool)) : List (Key × V) := kvs.map fun p => (.inr p.1, .bl p.2)

abbrev cW (K : PySem.W.Frag) : Addr := He.ga K "Worth"
abbrev cD (K : PySem.W.Frag) : Addr := He.ga K "Deal"
abbrev wFs (n : Int) : List (Str × V) := [("units", .int (wu n)), ("scale", .int (wsc n))]
abbrev dFs (b P a : Int) : List (Str × V) := [("houses", .int P), ("block", .int b), ("shift", .int a)]

section
variable (K : PySem.W.Frag) (H : Hp)
mutual
def Rep : V → D → Prop
  | v, .non => v = .non
  | v, .bl b => v = .bl b
  | v, .int i => v = .int i
  | v, .str s => v = .str s
  | v, .wt n => ∃ a dx, v = .ref a ∧ H a = some (.ins (cW K) dx (wFs n))
  | v, .deal b P a => ∃ q dx, v = .ref q ∧ H q = some (.ins (cD K) dx (dFs b P a))
  | v, .lst l => ∃ a vs, v = .ref a ∧ H a = some (.lst vs) ∧ RepL vs l
  | v, .tup l => ∃ a vs, v = .ref a ∧ SqT K H a vs ∧ RepL vs l
  | v, .ty n => v = .ty n
  | v, .adr a => v = .ref a
  | v, .sd kvs => ∃ a, v = .ref a ∧ H a = some (.dK (encS kvs))
def RepL : List V → List D → Prop
  | vs, [] => vs = []
  | vs, d :: l => ∃ v r, vs = v :: r ∧ Rep v d ∧ RepL r l
end
end

theorem Same.tup {K : PySem.W.Frag} {H H' : Hp} {a : Addr} {xs : List V} (e : Same H H') (h : SqT K H a xs) : SqT K H' a xs :=
  h.imp_left fun z => z.imp (e _ _) fun ⟨o, z⟩ => ⟨o, e _ _ z⟩
section
variable {K : PySem.W.Frag} {H H' : Hp}
mutual
theorem Rep.mono (e : Same H H') : ∀ {v : V} {d : D}, Rep K H v d → Rep K H' v d
  | _, .non, h => by rw [Rep] at h ⊢; exact h
  | _, .bl _, h => by rw [Rep] at h ⊢; exact h
  | _, .int _, h => by rw [Rep] at h ⊢; exact h
  | _, .str _, h => by rw [Rep] at h ⊢; exact h
  | _, .ty _, h => by rw [Rep] at h ⊢; exact h
  | _, .adr _, h => by rw [Rep] at h ⊢; exact h
  | _, .sd _, h => by
    rw [Rep] at h ⊢
    obtain ⟨a, e1, e2⟩ := h
    exact ⟨a, e1, e _ _ e2⟩
  | _, .wt _, h => by
    rw [Rep] at h ⊢
    obtain ⟨a, dx, e1, e2⟩ := h
    exact ⟨a, dx, e1, e _ _ e2⟩
  | _, .deal _ _ _, h => by
    rw [Rep] at h ⊢
    obtain ⟨a, dx, e1, e2⟩ := h
    exact ⟨a, dx, e1, e _ _ e2⟩
  | _, .lst l, h => by
    rw [Rep] at h ⊢
    obtain ⟨a, vs, e1, e2, e3⟩ := h
    exact ⟨a, vs, e1, e _ _ e2, RepL.mono e e3⟩
  | _, .tup l, h => by
    rw [Rep] at h ⊢
    obtain ⟨a, vs, e1, e2, e3⟩ := h
    exact ⟨a, vs, e1, Same.tup e e2, RepL.mono e e3⟩
theorem RepL.mono (e : Same H H') : ∀ {vs : List V} {ds : List D}, RepL K H vs ds → RepL K H' vs ds
  | _, [], h => by rw [RepL] at h ⊢; exact h
  | _, d :: l, h => by
    rw [RepL] at h ⊢
    obtain ⟨v, r, e1, e2, e3⟩ := h
    exact ⟨v, r, e1, Rep.mono e e2, RepL.mono e e3⟩
end
theorem RepL.len : ∀ {vs : List V} {ds : List D}, RepL K H vs ds → vs.length = ds.length
  | _, [], h => by rw [RepL] at h; rw [h]; rfl
  | _, d :: l, h => by
    rw [RepL] at h
    obtain ⟨v, r, e1, e2, e3⟩ := h
    rw [e1, List.length_cons, List.length_cons, RepL.len e3]
theorem RepL.get : ∀ {vs : List V} {ds : List D} {i : Nat} {d : D}, RepL K H vs ds → ds[i]? = some d → ∃ v, vs[i]? = some v ∧ Rep K H v d
  | _, [], _, _, _, e => by simp at e
  | _, d :: l, 0, d', h, e => by
    rw [RepL] at h
    obtain ⟨v, r, e1, e2, e3⟩ := h
    have : d = d' := by simpa using e
    subst this
    exact ⟨v, by rw [e1]; rfl, e2⟩
  | _, d :: l, i + 1, d', h, e => by
    rw [RepL] at h
    obtain ⟨v, r, e1, e2, e3⟩ := h
    obtain ⟨w, f1, f2⟩ := RepL.get (i := i) (d := d') e3 (by simpa using e)
    exact ⟨w, by rw [e1]; simpa using f1, f2⟩
theorem RepL.get' : ∀ {vs : List V} {ds : List D} {i : Nat} {v : V}, RepL K H vs ds → vs[i]? = some v → ∃ d, ds[i]? = some d ∧ Rep K H v d
  | _, [], _, _, h, e => by rw [RepL] at h; rw [h] at e; simp at e
  | _, d :: l, 0, v', h, e => by
    rw [RepL] at h
    obtain ⟨v, r, e1, e2, e3⟩ := h
    rw [e1] at e
    have : v = v' := by simpa using e
    subst this
    exact ⟨d, rfl, e2⟩
  | _, d :: l, i + 1, v', h, e => by
    rw [RepL] at h
    obtain ⟨v, r, e1, e2, e3⟩ := h
    rw [e1] at e
    obtain ⟨w, f1, f2⟩ := RepL.get' (i := i) (v := v') e3 (by simpa using e)
    exact ⟨w, by simpa using f1, f2⟩
theorem RepL.app : ∀ {vs us : List V} {ds es : List D}, RepL K H vs ds → RepL K H us es → RepL K H (vs ++ us) (ds ++ es)
  | _, _, [], _, h, h2 => by rw [RepL] at h; rw [h]; exact h2
  | _, _, d :: l, _, h, h2 => by
    rw [RepL] at h
    obtain ⟨v, r, e1, e2, e3⟩ := h
    rw [e1]
    show RepL K H (v :: (r ++ _)) (d :: (l ++ _))
    rw [RepL]
    exact ⟨v, _, rfl, e2, RepL.app e3 h2⟩
theorem RepL.nil : RepL K H [] [] := by rw [RepL]
theorem RepL.cons {v : V} {vs : List V} {d : D} {ds : List D} (h : Rep K H v d) (h2 : RepL K H vs ds) : RepL K H (v :: vs) (d :: ds) := by
  rw [RepL]
  exact ⟨v, vs, rfl, h, h2⟩
theorem RepL.set {v : V} {d : D} (r : Rep K H v d) : ∀ {vs : List V} {ds : List D} (i : Nat), RepL K H vs ds → RepL K H (vs.set i v) (ds.set i d)
  | _, [], _, h => by rw [RepL] at h; rw [h]; exact RepL.nil
  | _, e :: l, 0, h => by
    rw [RepL] at h
    obtain ⟨w, r', e1, e2, e3⟩ := h
    rw [e1]
    exact RepL.cons r e3
  | _, e :: l, i + 1, h => by
    rw [RepL] at h
    obtain ⟨w, r', e1, e2, e3⟩ := h
    rw [e1]
    exact RepL.cons e2 (RepL.set r i e3)
theorem RepL.drop : ∀ {vs : List V} {ds : List D} (n : Nat), RepL K H vs ds → RepL K H (vs.drop n) (ds.drop n)
  | _, _, 0, h => h
  | _, [], _ + 1, h => by rw [RepL] at h; rw [h]; exact RepL.nil
  | _, d :: l, n + 1, h => by
    rw [RepL] at h
    obtain ⟨w, r', e1, e2, e3⟩ := h
    rw [e1]
    exact RepL.drop n e3
theorem RepL.take : ∀ {vs : List V} {ds : List D} (n : Nat), RepL K H vs ds → RepL K H (vs.take n) (ds.take n)
  | _, _, 0, h => RepL.nil
  | _, [], _ + 1, h => by rw [RepL] at h; rw [h]; exact RepL.nil
  | _, d :: l, n + 1, h => by
    rw [RepL] at h
    obtain ⟨w, r', e1, e2, e3⟩ := h
    rw [e1]
    exact RepL.cons e2 (RepL.take n e3)
theorem rep_non : Rep K H .non .non := by rw [Rep]
theorem rep_bl {b : Bool} : Rep K H (.bl b) (.bl b) := by rw [Rep]
theorem rep_int {i : Int} : Rep K H (.int i) (.int i) := by rw [Rep]
theorem rep_str {s : Str} : Rep K H (.str s) (.str s) := by rw [Rep]
theorem rep_ty {s : String} : Rep K H (.ty s) (.ty s) := by rw [Rep]
theorem rep_adr {a : Addr} : Rep K H (.ref a) (.adr a) := by rw [Rep]
theorem rep_lst {a : Addr} {vs : List V} {ds : List D} (h : H a = some (.lst vs)) (r : RepL K H vs ds) : Rep K H (.ref a) (.lst ds) := by
  rw [Rep]
  exact ⟨a, vs, rfl, h, r⟩
theorem rep_tup {a : Addr} {vs : List V} {ds : List D} (h : SqT K H a vs) (r : RepL K H vs ds) : Rep K H (.ref a) (.tup ds) := by
  rw [Rep]
  exact ⟨a, vs, rfl, h, r⟩
theorem repl_int {ns : List Int} : ∀ {vs : List V}, RepL K H vs (ns.map D.int) → vs = ns.map V.int := by
  induction ns with
  | nil => intro vs h; rw [List.map_nil, RepL] at h; rw [h]; rfl
  | cons n r ih =>
    intro vs h
    rw [List.map_cons, RepL] at h
    obtain ⟨v, q, e1, e2, e3⟩ := h
    rw [Rep] at e2
    rw [e1, e2, ih e3]
    rfl
theorem repl_bl {ns : List Bool} : ∀ {vs : List V}, RepL K H vs (ns.map D.bl) → vs = ns.map V.bl := by
  induction ns with
  | nil => intro vs h; rw [List.map_nil, RepL] at h; rw [h]; rfl
  | cons n r ih =>
    intro vs h
    rw [List.map_cons, RepL] at h
    obtain ⟨v, q, e1, e2, e3⟩ := h
    rw [Rep] at e2
    rw [e1, e2, ih e3]
    rfl
theorem repl_str {ns : List Str} : ∀ {vs : List V}, RepL K H vs (ns.map D.str) → vs = ns.map V.str := by
  induction ns with
  | nil => intro vs h; rw [List.map_nil, RepL] at h; rw [h]; rfl
  | cons n r ih =>
    intro vs h
    rw [List.map_cons, RepL] at h
    obtain ⟨v, q, e1, e2, e3⟩ := h
    rw [Rep] at e2
    rw [e1, e2, ih e3]
    rfl
theorem repl_of_int : ∀ ns : List Int, RepL K H (ns.map V.int) (ns.map D.int)
  | [] => RepL.nil
  | n :: r => RepL.cons rep_int (repl_of_int r)
theorem repl_of_bl : ∀ ns : List Bool, RepL K H (ns.map V.bl) (ns.map D.bl)
  | [] => RepL.nil
  | n :: r => RepL.cons rep_bl (repl_of_bl r)
theorem repl_of_str : ∀ ns : List Str, RepL K H (ns.map V.str) (ns.map D.str)
  | [] => RepL.nil
  | n :: r => RepL.cons rep_str (repl_of_str r)
end

/-! ### what a step leaves: Hb the settled part, H1 the heap, then Hn and H2 -/
structure Fx (Hb H1 Hn H2 : Hp) : Prop where
  bn : Same Hb Hn
  n2 : Same Hn H2
  s : Same H1 H2
  df : ∀ b, Hb b = none → H1 b ≠ none → Hn b = none
theorem Fx.refl {Hb H : Hp} (h : Same Hb H) : Fx Hb H Hb H := ⟨Same.refl _, h, Same.refl _, fun _ h _ => h⟩
theorem Fx.trans {Hb H1 Hn H2 Hm H3 : Hp} (a : Fx Hb H1 Hn H2) (b : Fx Hn H2 Hm H3) : Fx Hb H1 Hm H3 :=
  ⟨a.bn.trans b.bn, b.n2, a.s.trans b.s, fun c h1 h2 => b.df c (a.df c h1 h2) (by
    cases q : H1 c with
    | none => exact absurd q h2
    | some o =>
      rw [a.s c o q]
      intro z
      cases z)⟩
theorem same_new {H : Hp} {p : Addr} {o : HO} (h : H p = none) : Same H (upd H p o) := fun b x e => by
  rw [upd_ne (ne_of_none e h)]
  exact e
theorem Fx.new {Hb H : Hp} (s : Same Hb H) {p : Addr} (o : HO) (h : H p = none) : Fx Hb H (upd Hb p o) (upd H p o) := by
  have hb : Hb p = none := s.free h
  refine ⟨same_new hb, fun b x e => ?_, same_new h, fun b h1 h2 => ?_⟩
  · by_cases q : b = p
    · subst q
      rw [upd_same] at e ⊢
      exact e
    · rw [upd_ne q] at e ⊢
      exact s b x e
  · have q : b ≠ p := fun q => h2 (by rw [q]; exact h)
    rw [upd_ne q]
    exact h1

/-! ### the state of a body -/
abbrev Env := List (Option D)
/-- what one's own object holds: a list, a dict of ints by ints -/
inductive OV where
  | l (ds : List D) | d (kvs : List (Int × Int))
abbrev Own := Option (Nat × OV)
def encK (kvs : List (Int × Int)) : List (Key × V) := kvs.map fun p => (.inl p.1, .int p.2)
def OV.at_ (K : PySem.W.Frag) (Hb H : Hp) (a : Addr) : OV → Prop
  | .l ds => ∃ vs, H a = some (.lst vs) ∧ RepL K Hb vs ds
  | .d kvs => H a = some (.dK (encK kvs))
theorem OV.fx {K : PySem.W.Frag} {Hb Hn H H2 : Hp} {a : Addr} {c : OV} (h : c.at_ K Hb H a) (m : Same Hb Hn) (s : Same H H2) : c.at_ K Hn H2 a := by
  cases c with
  | l ds =>
    obtain ⟨vs, h1, h2⟩ := h
    exact ⟨vs, s _ _ h1, h2.mono m⟩
  | d kvs => exact s _ _ h
theorem OV.there {K : PySem.W.Frag} {Hb H : Hp} {a : Addr} {c : OV} (h : c.at_ K Hb H a) : H a ≠ none := by
  cases c with
  | l ds =>
    obtain ⟨vs, h1, h2⟩ := h
    rw [h1]
    intro z
    cases z
  | d kvs =>
    have h : H a = some _ := h
    rw [h]
    intro z
    cases z
structure SS (K : PySem.W.Frag) (H0 Hb H : Hp) (σ : L2.St) (δ : KX.Env) (ow : Own) : Prop where
  sm : Same Hb H
  rep : ∀ (i : Nat) d, δ[i]? = some (some d) → ∃ v, σ[i]? = some (some v) ∧ Rep K Hb v d
  len : δ.length = σ.length
  own : ∀ (i : Nat) c, ow = some (i, c) → δ[i]? = some none ∧ ∃ l, σ[i]? = some (some (.ref l)) ∧ H0 l = none ∧ Hb l = none ∧ c.at_ K Hb H l
section
variable {K : PySem.W.Frag} {H0 Hb H Hn H2 : Hp} {σ : L2.St} {δ : KX.Env} {ow : Own}
theorem SS.fx (s : SS K H0 Hb H σ δ ow) (f : Fx Hb H Hn H2) : SS K H0 Hn H2 σ δ ow := by
  refine ⟨f.n2, fun i d e => ?_, s.len, fun i ds e => ?_⟩
  · obtain ⟨v, h1, h2⟩ := s.rep i d e
    exact ⟨v, h1, h2.mono f.bn⟩
  · obtain ⟨hd, l, h1, h2, h3, h4⟩ := s.own i ds e
    exact ⟨hd, l, h1, h2, f.df l h3 (OV.there h4), OV.fx h4 f.bn f.s⟩
theorem SS.ownL {n : Nat} {ds : List D} (s : SS K H0 Hb H σ δ (some (n, .l ds))) : δ[n]? = some none ∧ ∃ l vs, σ[n]? = some (some (.ref l)) ∧ H0 l = none ∧ Hb l = none ∧ H l = some (.lst vs) ∧ RepL K Hb vs ds := by
  obtain ⟨hd, l, h1, h2, h3, vs, h4, h5⟩ := s.own n _ rfl
  exact ⟨hd, l, vs, h1, h2, h3, h4, h5⟩
theorem SS.set (s : SS K H0 Hb H σ δ ow) {i : Nat} {v : V} {d : D} (r : Rep K Hb v d) (hi : ∀ j ds, ow = some (j, ds) → i ≠ j) : SS K H0 Hb H (σ.set i (some v)) (δ.set i (some d)) ow := by
  refine ⟨s.sm, fun j e h => ?_, by rw [List.length_set, List.length_set, s.len], fun j ds e => ?_⟩
  · by_cases q : i = j
    · subst q
      by_cases hl : i < δ.length
      · rw [List.getElem?_set_self hl] at h
        have : d = e := by simpa using h
        subst this
        exact ⟨v, by rw [List.getElem?_set_self (by rw [← s.len]; exact hl)], r⟩
      · rw [List.getElem?_eq_none (by rw [List.length_set]; omega)] at h
        cases h
    · rw [List.getElem?_set_ne q] at h
      obtain ⟨w, h1, h2⟩ := s.rep j e h
      exact ⟨w, by rw [List.getElem?_set_ne q]; exact h1, h2⟩
  · obtain ⟨hd, l, h1, h2⟩ := s.own j ds e
    have q := hi j ds e
    exact ⟨by rw [List.getElem?_set_ne q]; exact hd, l, by rw [List.getElem?_set_ne q]; exact h1, h2⟩
end

/-! ### judgements -/
def ED (K : PySem.W.Frag) (te : TE) (δ : KX.Env) (ow : Own) (d : D) : Prop := ∀ (H0 Hb H : Hp) (σ : L2.St) (Q : VK), SS K H0 Hb H σ δ ow → (∀ v Hn H2, Fx Hb H Hn H2 → Rep K Hn v d → Q v H2) → te σ H Q
def ET (K : PySem.W.Frag) (tt : TT) (δ : KX.Env) (ow : Own) (b : Bool) : Prop := ∀ (H0 Hb H : Hp) (σ : L2.St) (Q : Bool → Hp → Prop), SS K H0 Hb H σ δ ow → (∀ Hn H2, Fx Hb H Hn H2 → Q b H2) → tt σ H Q
def EA (K : PySem.W.Frag) (ta : TA) (δ : KX.Env) (ow : Own) (ds : List D) : Prop := ∀ (H0 Hb H : Hp) (σ : L2.St) (Q : List V → Hp → Prop), SS K H0 Hb H σ δ ow → (∀ vs Hn H2, Fx Hb H Hn H2 → RepL K Hn vs ds → Q vs H2) → ta σ H Q
def ES (K : PySem.W.Frag) (ts : TS) (δ : KX.Env) (ow : Own) (N : KX.Env → Own → Prop) (R : D → Prop) : Prop := ∀ (Hb0 H0 Hb H : Hp) (σ : L2.St) (En : Ends), Fx Hb0 H0 Hb H → SS K H0 Hb H σ δ ow →
  (∀ δ' ow' Hb' H' σ', Fx Hb0 H0 Hb' H' → Same Hb Hb' → SS K H0 Hb' H' σ' δ' ow' → N δ' ow' → En.nx σ' H') → (∀ v d Hn H', Fx Hb0 H0 Hn H' → Rep K Hn v d → R d → En.rt v H') → ts En σ H
/-- a value's rule by its arguments' data: g tells what comes -/
def RD (K : PySem.W.Frag) (r : List V → Hp → VK → Prop) (ds : List D) (d : D) : Prop := ∀ (Hb H : Hp) (vs : List V) (Q : VK), Same Hb H → RepL K Hb vs ds → (∀ v Hn H2, Fx Hb H Hn H2 → Rep K Hn v d → Q v H2) → r vs H Q

section
variable {K : PySem.W.Frag} {δ : KX.Env} {ow : Own} {ta tb tc : TE} {tt tu : TT} {d e : D} {i j : Int} {b c : Bool}
theorem ed_var {n : Nat} (h : δ[n]? = some (some d)) : ED K (tVar n) δ ow d := fun H0 Hb H σ Q s k => by
  obtain ⟨v, h1, h2⟩ := s.rep n d h
  exact ⟨v, h1, k v Hb H (.refl s.sm) h2⟩
theorem ed_int : ED K (tC (.int i)) δ ow (.int i) := fun H0 Hb H σ Q s k => k _ Hb H (.refl s.sm) rep_int
theorem ed_bl : ED K (tC (.bl b)) δ ow (.bl b) := fun H0 Hb H σ Q s k => k _ Hb H (.refl s.sm) rep_bl
theorem ed_str {s : Str} : ED K (tC (.str s)) δ ow (.str s) := fun H0 Hb H σ Q s k => k _ Hb H (.refl s.sm) rep_str
theorem ed_ty {s : String} : ED K (tC (.ty s)) δ ow (.ty s) := fun H0 Hb H σ Q s k => k _ Hb H (.refl s.sm) rep_ty
theorem ed_adr {a : Addr} : ED K (tC (.ref a)) δ ow (.adr a) := fun H0 Hb H σ Q s k => k _ Hb H (.refl s.sm) rep_adr
theorem ed_non : ED K (tC .non) δ ow .non := fun H0 Hb H σ Q s k => k _ Hb H (.refl s.sm) rep_non
theorem ed_wr {a : Addr} {vs : List V} {ds : List D} (h : ∀ H, SqT K H a vs) (r : ∀ H, RepL K H vs ds) : ED K (tC (.ref a)) δ ow (.tup ds) := fun H0 Hb H σ Q s k => k _ Hb H (.refl s.sm) (rep_tup (h _) (r _))
/-- two parts, then a rule on their values -/
theorem ed_2 {r : R2} {x y z : D} (ha : ED K ta δ ow x) (hb : ED K tb δ ow y) (hr : ∀ (Hb H : Hp) (v w : V) (Q : VK), Same Hb H → Rep K Hb v x → Rep K Hb w y → (∀ u Hn H2, Fx Hb H Hn H2 → Rep K Hn u z → Q u H2) → r v w H Q) : ED K (tOp r ta tb) δ ow z := fun H0 Hb H σ Q s k => by
  refine ha H0 Hb H σ _ s fun v Hn H2 f1 r1 => ?_
  refine hb H0 Hn H2 σ _ (s.fx f1) fun w Hm H3 f2 r2 => ?_
  exact hr Hm H3 v w Q f2.n2 (r1.mono f2.bn) r2 fun u Hk H4 f3 r3 => k u Hk H4 ((f1.trans f2).trans f3) r3
theorem ed_1 {r : V → Hp → VK → Prop} {x z : D} (ha : ED K ta δ ow x) (hr : ∀ (Hb H : Hp) (v : V) (Q : VK), Same Hb H → Rep K Hb v x → (∀ u Hn H2, Fx Hb H Hn H2 → Rep K Hn u z → Q u H2) → r v H Q) : ED K (tUn r ta) δ ow z := fun H0 Hb H σ Q s k => by
  refine ha H0 Hb H σ _ s fun v Hn H2 f1 r1 => ?_
  exact hr Hn H2 v Q f1.n2 r1 fun u Hk H4 f3 r3 => k u Hk H4 (f1.trans f3) r3
theorem ed_I0 {g : Int → Int → Int} (ha : ED K ta δ ow (.int i)) (hb : ED K tb δ ow (.int j)) : ED K (tOp (rI0 fun i j => .int (g i j)) ta tb) δ ow (.int (g i j)) :=
  ed_2 ha hb fun Hb H v w Q s r1 r2 k => by
    rw [Rep] at r1 r2
    exact ⟨i, j, r1, r2, k _ Hb H (.refl s) rep_int⟩
theorem ed_I {C : Int → Int → Prop} {g : Int → Int → Int} (ha : ED K ta δ ow (.int i)) (hb : ED K tb δ ow (.int j)) (hc : C i j) : ED K (tOp (rI C fun i j => .int (g i j)) ta tb) δ ow (.int (g i j)) :=
  ed_2 ha hb fun Hb H v w Q s r1 r2 k => by
    rw [Rep] at r1 r2
    exact ⟨i, j, r1, r2, hc, k _ Hb H (.refl s) rep_int⟩
theorem ed_B0 {g : Int → Int → Bool} (ha : ED K ta δ ow (.int i)) (hb : ED K tb δ ow (.int j)) : ED K (tOp (rI0 fun i j => .bl (g i j)) ta tb) δ ow (.bl (g i j)) :=
  ed_2 ha hb fun Hb H v w Q s r1 r2 k => by
    rw [Rep] at r1 r2
    exact ⟨i, j, r1, r2, k _ Hb H (.refl s) rep_bl⟩
theorem ed_U {g : Int → Int} (ha : ED K ta δ ow (.int i)) : ED K (tUn (rU fun i => .int (g i)) ta) δ ow (.int (g i)) :=
  ed_1 ha fun Hb H v Q s r1 k => by
    rw [Rep] at r1
    exact ⟨i, r1, k _ Hb H (.refl s) rep_int⟩
theorem ed_eqI (ha : ED K ta δ ow (.int i)) (hb : ED K tb δ ow (.int j)) : ED K (tOp rEq ta tb) δ ow (.bl (decide (i = j))) :=
  ed_2 ha hb fun Hb H v w Q s r1 r2 k => by
    rw [Rep] at r1 r2
    subst r1 r2
    have q : decide (V.int i = V.int j) = decide (i = j) := by
      by_cases h : i = j
      · rw [h]; simp
      · rw [decide_eq_false h, decide_eq_false (fun z => h (V.int.inj z))]
    refine ⟨rfl, ?_⟩
    rw [q]
    exact k _ Hb H (.refl s) rep_bl
theorem ed_neI (ha : ED K ta δ ow (.int i)) (hb : ED K tb δ ow (.int j)) : ED K (tOp rNe ta tb) δ ow (.bl (!decide (i = j))) :=
  ed_2 ha hb fun Hb H v w Q s r1 r2 k => by
    rw [Rep] at r1 r2
    subst r1 r2
    have q : decide (V.int i = V.int j) = decide (i = j) := by
      by_cases h : i = j
      · rw [h]; simp
      · rw [decide_eq_false h, decide_eq_false (fun z => h (V.int.inj z))]
    refine ⟨rfl, ?_⟩
    rw [q]
    exact k _ Hb H (.refl s) rep_bl
theorem ed_eqB (ha : ED K ta δ ow (.bl b)) (hb : ED K tb δ ow (.bl c)) : ED K (tOp rEq ta tb) δ ow (.bl (decide (b = c))) :=
  ed_2 ha hb fun Hb H v w Q s r1 r2 k => by
    rw [Rep] at r1 r2
    subst r1 r2
    have q : decide (V.bl b = V.bl c) = decide (b = c) := by
      by_cases h : b = c
      · rw [h]; simp
      · rw [decide_eq_false h, decide_eq_false (fun z => h (V.bl.inj z))]
    refine ⟨rfl, ?_⟩
    rw [q]
    exact k _ Hb H (.refl s) rep_bl
theorem ed_eqS {x y : Str} (ha : ED K ta δ ow (.str x)) (hb : ED K tb δ ow (.str y)) : ED K (tOp rEq ta tb) δ ow (.bl (decide (x = y))) :=
  ed_2 ha hb fun Hb H v w Q s r1 r2 k => by
    rw [Rep] at r1 r2
    subst r1 r2
    have q : decide (V.str x = V.str y) = decide (x = y) := by
      by_cases h : x = y
      · rw [h]; simp
      · rw [decide_eq_false h, decide_eq_false (fun z => h (V.str.inj z))]
    refine ⟨rfl, ?_⟩
    rw [q]
    exact k _ Hb H (.refl s) rep_bl
theorem ed_neS {x y : Str} (ha : ED K ta δ ow (.str x)) (hb : ED K tb δ ow (.str y)) : ED K (tOp rNe ta tb) δ ow (.bl (!decide (x = y))) :=
  ed_2 ha hb fun Hb H v w Q s r1 r2 k => by
    rw [Rep] at r1 r2
    subst r1 r2
    have q : decide (V.str x = V.str y) = decide (x = y) := by
      by_cases h : x = y
      · rw [h]; simp
      · rw [decide_eq_false h, decide_eq_false (fun z => h (V.str.inj z))]
    refine ⟨rfl, ?_⟩
    rw [q]
    exact k _ Hb H (.refl s) rep_bl
theorem ed_is {d' : D} (h : ED K ta δ ow d) (q : d = d') : ED K ta δ ow d' := q ▸ h
theorem et_is {b' : Bool} (h : ET K tt δ ow b) (q : b = b') : ET K tt δ ow b' := q ▸ h

/-! ### fields -/
theorem ed_units {n : Int} (cl : Cls K (cW K)) (na : NoAttr K (cW K) "units") (ha : ED K ta δ ow (.wt n)) : ED K (tFld K ta "units") δ ow (.int (wu n)) := fun H0 Hb H σ Q s k => by
  refine ha H0 Hb H σ _ s fun v Hn H2 f1 r1 => ?_
  rw [Rep] at r1
  obtain ⟨a, dx, e1, e2⟩ := r1
  exact ⟨a, _, dx, wFs n, .int (wu n), e1, f1.n2 _ _ e2, cl, na, rfl, k _ Hn H2 f1 rep_int⟩
theorem ed_scale {n : Int} (cl : Cls K (cW K)) (na : NoAttr K (cW K) "scale") (ha : ED K ta δ ow (.wt n)) : ED K (tFld K ta "scale") δ ow (.int (wsc n)) := fun H0 Hb H σ Q s k => by
  refine ha H0 Hb H σ _ s fun v Hn H2 f1 r1 => ?_
  rw [Rep] at r1
  obtain ⟨a, dx, e1, e2⟩ := r1
  exact ⟨a, _, dx, wFs n, .int (wsc n), e1, f1.n2 _ _ e2, cl, na, rfl, k _ Hn H2 f1 rep_int⟩
theorem ed_houses {x P a : Int} (cl : Cls K (cD K)) (na : NoAttr K (cD K) "houses") (ha : ED K ta δ ow (.deal x P a)) : ED K (tFld K ta "houses") δ ow (.int P) := fun H0 Hb H σ Q s k => by
  refine ha H0 Hb H σ _ s fun v Hn H2 f1 r1 => ?_
  rw [Rep] at r1
  obtain ⟨q, dx, e1, e2⟩ := r1
  exact ⟨q, _, dx, dFs x P a, .int P, e1, f1.n2 _ _ e2, cl, na, rfl, k _ Hn H2 f1 rep_int⟩
theorem ed_block {x P a : Int} (cl : Cls K (cD K)) (na : NoAttr K (cD K) "block") (ha : ED K ta δ ow (.deal x P a)) : ED K (tFld K ta "block") δ ow (.int x) := fun H0 Hb H σ Q s k => by
  refine ha H0 Hb H σ _ s fun v Hn H2 f1 r1 => ?_
  rw [Rep] at r1
  obtain ⟨q, dx, e1, e2⟩ := r1
  exact ⟨q, _, dx, dFs x P a, .int x, e1, f1.n2 _ _ e2, cl, na, rfl, k _ Hn H2 f1 rep_int⟩
theorem ed_shift {x P a : Int} (cl : Cls K (cD K)) (na : NoAttr K (cD K) "shift") (ha : ED K ta δ ow (.deal x P a)) : ED K (tFld K ta "shift") δ ow (.int a) := fun H0 Hb H σ Q s k => by
  refine ha H0 Hb H σ _ s fun v Hn H2 f1 r1 => ?_
  rw [Rep] at r1
  obtain ⟨q, dx, e1, e2⟩ := r1
  exact ⟨q, _, dx, dFs x P a, .int a, e1, f1.n2 _ _ e2, cl, na, rfl, k _ Hn H2 f1 rep_int⟩
end
end KX
namespace KX
open PySem PySem.Spec PyProof.Rows L2

section
variable {K : PySem.W.Frag} {δ : KX.Env} {ow : Own} {ta tb tc te : TE} {tt tu : TT} {tr : TA} {d e : D} {ds : List D} {i j : Int} {b c : Bool}

/-! ### arguments, displays -/
theorem ea_nil : EA K tNil δ ow [] := fun H0 Hb H σ Q s k => k [] Hb H (.refl s.sm) RepL.nil
theorem ea_cons (h : ED K te δ ow d) (hr : EA K tr δ ow ds) : EA K (tCons te tr) δ ow (d :: ds) := fun H0 Hb H σ Q s k => by
  refine h H0 Hb H σ _ s fun v Hn H2 f1 r1 => ?_
  refine hr H0 Hn H2 σ _ (s.fx f1) fun vs Hm H3 f2 r2 => ?_
  exact k (v :: vs) Hm H3 (f1.trans f2) (RepL.cons (r1.mono f2.bn) r2)
theorem size_ok {n : Nat} (h : n ≤ 100000) : n ≤ sizeLine := Nat.le_trans h (by decide)
theorem size_lt {n : Nat} (h : n < 100000) : n < sizeLine := Nat.lt_of_lt_of_le h (by decide)
theorem sqT_of {H : Hp} {a : Addr} {xs : List V} (h : H a = some (.tup xs)) : SqT K H a xs := .inl (.inl h)
theorem sqL_of {H : Hp} {a : Addr} {xs : List V} (h : H a = some (.lst xs)) : SqL K H a xs := .inl (.inl h)
theorem ed_tup (h : EA K tr δ ow ds) (hl : ds.length ≤ 100000) : ED K (tTup tr) δ ow (.tup ds) := fun H0 Hb H σ Q s k => by
  refine h H0 Hb H σ _ s fun vs Hn H2 f1 r1 => ⟨size_ok (by rw [r1.len]; exact hl), fun p hp => ?_⟩
  have f2 := Fx.new f1.n2 (.tup vs) hp
  exact k _ _ _ (f1.trans f2) (rep_tup (sqT_of upd_same) (r1.mono f2.bn))
theorem ed_lst (h : EA K tr δ ow ds) (hl : ds.length ≤ 100000) : ED K (tLst tr) δ ow (.lst ds) := fun H0 Hb H σ Q s k => by
  refine h H0 Hb H σ _ s fun vs Hn H2 f1 r1 => ⟨size_ok (by rw [r1.len]; exact hl), fun p hp => ?_⟩
  have f2 := Fx.new f1.n2 (.lst vs) hp
  exact k _ _ _ (f1.trans f2) (rep_lst upd_same (r1.mono f2.bn))
theorem ed_cb {r : List V → Hp → VK → Prop} (h : EA K tr δ ow ds) (hr : RD K r ds d) : ED K (tCB r tr) δ ow d := fun H0 Hb H σ Q s k => by
  refine h H0 Hb H σ _ s fun vs Hn H2 f1 r1 => ?_
  exact hr Hn H2 vs Q f1.n2 r1 fun v Hm H3 f2 r2 => k v Hm H3 (f1.trans f2) r2

/-! ### indices, slices, in -/
theorem repL_ixN {n m : Nat} (h : n = m) (i : Int) : ixN n i = ixN m i := by rw [h]
theorem repl_at {H : Hp} {vs : List V} (r : RepL K H vs ds) {i : Int} {d : D} (h : atI ds i = some d) : ∃ v, atI vs i = some v ∧ Rep K H v d := by
  unfold atI at h ⊢
  rw [r.len]
  cases q : ixN ds.length i with
  | none => rw [q] at h; cases h
  | some j =>
    rw [q] at h
    exact r.get (i := j) h
theorem ed_ixT (ha : ED K ta δ ow (.tup ds)) (hb : ED K tb δ ow (.int i)) (h : atI ds i = some d) : ED K (tOp (rIxT K) ta tb) δ ow d :=
  ed_2 ha hb fun Hb H v w Q s r1 r2 k => by
    rw [Rep] at r1
    rw [Rep] at r2
    obtain ⟨a, vs, e1, e2, e3⟩ := r1
    obtain ⟨x, h1, h2⟩ := repl_at e3 h
    exact ⟨a, vs, i, x, e1, r2, Same.tup s e2, h1, k _ Hb H (.refl s) h2⟩
theorem ed_ixL (ha : ED K ta δ ow (.lst ds)) (hb : ED K tb δ ow (.int i)) (h : atI ds i = some d) : ED K (tOp (rIxL K) ta tb) δ ow d :=
  ed_2 ha hb fun Hb H v w Q s r1 r2 k => by
    rw [Rep] at r1
    rw [Rep] at r2
    obtain ⟨a, vs, e1, e2, e3⟩ := r1
    obtain ⟨x, h1, h2⟩ := repl_at e3 h
    exact ⟨a, vs, i, x, e1, r2, sqL_of (s _ _ e2), h1, k _ Hb H (.refl s) h2⟩
/-- xs[i] of the own list -/
theorem ed_ixO {n : Nat} (hb : ED K tb δ (some (n, .l ds)) (.int i)) (h : atI ds i = some d) : ED K (tOp (rIxL K) (tVar n) tb) δ (some (n, .l ds)) d := fun H0 Hb H σ Q s k => by
  obtain ⟨hd, l, vs, h1, h2, h3, h4, h5⟩ := s.ownL
  refine ⟨_, h1, ?_⟩
  refine hb H0 Hb H σ _ s fun v Hn H2 f1 r1 => ?_
  rw [Rep] at r1
  obtain ⟨x, g1, g2⟩ := repl_at (h5.mono f1.bn) h
  exact ⟨l, vs, i, x, rfl, r1, sqL_of (f1.s _ _ h4), g1, k _ Hn H2 f1 g2⟩
def TO_ (K : PySem.W.Frag) (to : TO) (δ : KX.Env) (ow : Own) (o : Option Int) : Prop := ∀ (H0 Hb H : Hp) (σ : L2.St) (Q : Option Int → Hp → Prop), SS K H0 Hb H σ δ ow → (∀ Hn H2, Fx Hb H Hn H2 → Q o H2) → to σ H Q
theorem eo_none : TO_ K tNoPart δ ow none := fun H0 Hb H σ Q s k => k Hb H (.refl s.sm)
theorem eo_some (h : ED K te δ ow (.int i)) : TO_ K (tPart te) δ ow (some i) := fun H0 Hb H σ Q s k => by
  refine h H0 Hb H σ _ s fun v Hn H2 f1 r1 => ?_
  rw [Rep] at r1
  exact ⟨i, r1, k Hn H2 f1⟩
def cutD (xs : List D) (lo hi : Option Int) : List D := (xs.drop (HT.sIx xs.length 0 lo)).take (HT.sIx xs.length xs.length hi - HT.sIx xs.length 0 lo)
theorem cut_rep {H : Hp} {vs : List V} {lo hi : Option Int} (r : RepL K H vs ds) : RepL K H (cutV vs lo hi) (cutD ds lo hi) := by
  have e := r.len
  unfold cutV cutD
  rw [e]
  exact (r.drop _).take _
theorem ed_slL {to th : TO} {lo hi : Option Int} (h : ED K te δ ow (.lst ds)) (h1 : TO_ K to δ ow lo) (h2 : TO_ K th δ ow hi) : ED K (tSl (rSlL K) te to th) δ ow (.lst (cutD ds lo hi)) := fun H0 Hb H σ Q s k => by
  refine h H0 Hb H σ _ s fun v Hn H2 f1 r1 => ?_
  refine h1 H0 Hn H2 σ _ (s.fx f1) fun Hm H3 f2 => ?_
  refine h2 H0 Hm H3 σ _ ((s.fx f1).fx f2) fun Hk H4 f3 => ?_
  rw [Rep] at r1
  obtain ⟨a, vs, e1, e2, e3⟩ := r1
  refine ⟨a, vs, e1, sqL_of ((f2.trans f3).s _ _ (f1.n2 _ _ e2)), fun p hp => ?_⟩
  have f4 := Fx.new f3.n2 (.lst (cutV vs lo hi)) hp
  refine k _ _ _ (((f1.trans f2).trans f3).trans f4) (rep_lst upd_same ?_)
  exact (cut_rep ((e3.mono f2.bn).mono f3.bn)).mono f4.bn
theorem ed_cat {xs ys : List D} (ha : ED K ta δ ow (.lst xs)) (hb : ED K tb δ ow (.lst ys)) (hl : xs.length + ys.length ≤ 100000) : ED K (tOp rCat ta tb) δ ow (.lst (xs ++ ys)) :=
  ed_2 ha hb fun Hb H v w Q s r1 r2 k => by
    rw [Rep] at r1
    rw [Rep] at r2
    obtain ⟨a, vs, e1, e2, e3⟩ := r1
    obtain ⟨a2, us, g1, g2, g3⟩ := r2
    refine ⟨a, a2, vs, us, e1, g1, s _ _ e2, s _ _ g2, size_ok (by rw [e3.len, g3.len]; exact hl), fun p hp => ?_⟩
    have f := Fx.new s (.lst (vs ++ us)) hp
    exact k _ _ _ f (rep_lst upd_same ((e3.app g3).mono f.bn))
theorem ed_inT {neg : Bool} {x : Str} {ys : List Str} (ha : ED K ta δ ow (.str x)) (hb : ED K tb δ ow (.tup (ys.map D.str))) (h : (if neg then !inV (.str x) (ys.map V.str) else inV (.str x) (ys.map V.str)) = b) : ED K (tOp (rIn K neg) ta tb) δ ow (.bl b) :=
  ed_2 ha hb fun Hb H v w Q s r1 r2 k => by
    rw [Rep] at r1
    rw [Rep] at r2
    obtain ⟨a, vs, e1, e2, e3⟩ := r2
    have e4 := repl_str e3
    subst r1 e1 e4
    refine ⟨a, _, rfl, .inr (Same.tup s e2), rfl, ?_, ?_⟩
    · rw [List.all_map]
      exact List.all_eq_true.mpr fun _ _ => rfl
    · rw [h]
      exact k _ Hb H (.refl s) rep_bl

/-! ### tests -/
theorem et_test (h : ED K te δ ow (.bl b)) : ET K (tTest te) δ ow b := fun H0 Hb H σ Q s k => by
  refine h H0 Hb H σ _ s fun v Hn H2 f1 r1 => ?_
  rw [Rep] at r1
  exact ⟨b, r1, k Hn H2 f1⟩
theorem et_B (h : ED K te δ ow (.bl b)) : ET K (tB te) δ ow b := fun H0 Hb H σ Q s k => by
  refine h H0 Hb H σ _ s fun v Hn H2 f1 r1 => ?_
  rw [Rep] at r1
  exact ⟨b, r1, k Hn H2 f1⟩
theorem et_not (h : ET K tt δ ow b) : ET K (tNot tt) δ ow (!b) := fun H0 Hb H σ Q s k => h H0 Hb H σ _ s fun Hn H2 f1 => k Hn H2 f1
theorem et_and (h : ET K tt δ ow b) (h2 : b = true → ET K tu δ ow c) : ET K (tAnd tt tu) δ ow (b && c) := fun H0 Hb H σ Q s k => by
  refine h H0 Hb H σ _ s fun Hn H2 f1 => ?_
  cases b with
  | true => exact iteT (h2 rfl H0 Hn H2 σ _ (s.fx f1) fun Hm H3 f2 => k Hm H3 (f1.trans f2))
  | false => exact iteF (k Hn H2 f1)
theorem et_or (h : ET K tt δ ow b) (h2 : b = false → ET K tu δ ow c) : ET K (tOr tt tu) δ ow (b || c) := fun H0 Hb H σ Q s k => by
  refine h H0 Hb H σ _ s fun Hn H2 f1 => ?_
  cases b with
  | true => exact iteT (k Hn H2 f1)
  | false => exact iteF (h2 rfl H0 Hn H2 σ _ (s.fx f1) fun Hm H3 f2 => k Hm H3 (f1.trans f2))
theorem ed_andV (h : ED K ta δ ow (.bl b)) (h2 : b = true → ED K tb δ ow (.bl c)) : ED K (tAndV ta tb) δ ow (.bl (b && c)) := fun H0 Hb H σ Q s k => by
  refine h H0 Hb H σ _ s fun v Hn H2 f1 r1 => ?_
  rw [Rep] at r1
  refine ⟨b, r1, ?_⟩
  cases b with
  | true => exact iteT (h2 rfl H0 Hn H2 σ _ (s.fx f1) fun v Hm H3 f2 r2 => k v Hm H3 (f1.trans f2) r2)
  | false => exact iteF (k _ Hn H2 f1 rep_bl)
theorem ed_orV (h : ED K ta δ ow (.bl b)) (h2 : b = false → ED K tb δ ow (.bl c)) : ED K (tOrV ta tb) δ ow (.bl (b || c)) := fun H0 Hb H σ Q s k => by
  refine h H0 Hb H σ _ s fun v Hn H2 f1 r1 => ?_
  rw [Rep] at r1
  refine ⟨b, r1, ?_⟩
  cases b with
  | true => exact iteT (k _ Hn H2 f1 rep_bl)
  | false => exact iteF (h2 rfl H0 Hn H2 σ _ (s.fx f1) fun v Hm H3 f2 r2 => k v Hm H3 (f1.trans f2) r2)
theorem ed_notV (h : ED K ta δ ow (.bl b)) : ED K (tNotV ta) δ ow (.bl (!b)) := fun H0 Hb H σ Q s k => by
  refine h H0 Hb H σ _ s fun v Hn H2 f1 r1 => ?_
  rw [Rep] at r1
  exact ⟨b, r1, k _ Hn H2 f1 rep_bl⟩
theorem ed_if (h : ET K tt δ ow b) (h1 : b = true → ED K ta δ ow d) (h2 : b = false → ED K tb δ ow d) : ED K (tIf tt ta tb) δ ow d := fun H0 Hb H σ Q s k => by
  refine h H0 Hb H σ _ s fun Hn H2 f1 => ?_
  cases b with
  | true => exact iteT (h1 rfl H0 Hn H2 σ _ (s.fx f1) fun v Hm H3 f2 r2 => k v Hm H3 (f1.trans f2) r2)
  | false => exact iteF (h2 rfl H0 Hn H2 σ _ (s.fx f1) fun v Hm H3 f2 r2 => k v Hm H3 (f1.trans f2) r2)
/-- two data, by the test -/
theorem ed_ite {d1 d2 : D} (h : ET K tt δ ow b) (h1 : b = true → ED K ta δ ow d1) (h2 : b = false → ED K tb δ ow d2) : ED K (tIf tt ta tb) δ ow (if b then d1 else d2) :=
  ed_if h (fun q => by rw [q]; exact h1 q) (fun q => by rw [q]; exact h2 q)
abbrev tTru (K : PySem.W.Frag) (ta : TE) : TT := fun σ H Q => ta σ H fun x H' => ∃ k, TruV K x H' k ∧ Q k H'
theorem et_truO {n : Nat} : ET K (tTru K (tVar n)) δ (some (n, .l ds)) (!ds.isEmpty) := fun H0 Hb H σ Q s k => by
  obtain ⟨hd, l, vs, h1, h2, h3, h4, h5⟩ := s.ownL
  refine ⟨_, h1, !vs.isEmpty, .inl ⟨vs, sqL_of h4, rfl⟩, ?_⟩
  have q : vs.isEmpty = ds.isEmpty := by
    have := h5.len
    cases vs <;> cases ds <;> simp_all
  rw [q]
  exact k Hb H (.refl s.sm)
theorem et_truI (h : ED K ta δ ow (.int i)) : ET K (tTru K ta) δ ow (i != 0) := fun H0 Hb H σ Q s k => by
  refine h H0 Hb H σ _ s fun v Hn H2 f1 r1 => ?_
  rw [Rep] at r1
  subst r1
  exact ⟨i != 0, rfl, k Hn H2 f1⟩
theorem et_truB (h : ED K ta δ ow (.bl b)) : ET K (tTru K ta) δ ow b := fun H0 Hb H σ Q s k => by
  refine h H0 Hb H σ _ s fun v Hn H2 f1 r1 => ?_
  rw [Rep] at r1
  subst r1
  exact ⟨b, rfl, k Hn H2 f1⟩

/-! ### calls -/
/-- a promise: arguments by enc, under pre, then g -/
def spA {α : Type} (K : PySem.W.Frag) (enc : α → List D) (pre : α → Prop) (g : α → D) : Sp := fun vs H Q _ => ∃ (Hb : Hp) (a : α), Same Hb H ∧ RepL K Hb vs (enc a) ∧ pre a ∧ ∀ v Hn H2, Fx Hb H Hn H2 → Rep K Hn v (g a) → Q v H2
theorem ed_call {α : Type} {enc : α → List D} {pre : α → Prop} {g : α → D} {E : XK} (a : α) (h : EA K tr δ ow (enc a)) (hp : pre a) : ED K (tCall (spA K enc pre g) [] E tr) δ ow (g a) := fun H0 Hb H σ Q s k => by
  refine h H0 Hb H σ _ s fun vs Hn H2 f1 r1 => ?_
  rw [List.append_nil]
  exact ⟨Hn, a, f1.n2, r1, hp, fun v Hm H3 f2 r2 => k v Hm H3 (f1.trans f2) r2⟩
/-- o.m(..) of a Worth, of a Deal -/
theorem ed_methW {α : Type} {enc : α → List D} {pre : α → Prop} {g : α → D} {E : XK} {m : Str} {n : Int} (a : α) (ho : ED K ta δ ow (.wt n)) (h : EA K tr δ ow ds) (he : enc a = .wt n :: ds) (hp : pre a) (hm : (wFs n).lookup m = none) :
    ED K (tMeth (cW K) m (spA K enc pre g) [] E ta tr) δ ow (g a) := fun H0 Hb H σ Q s k => by
  refine ho H0 Hb H σ _ s fun v Hn H2 f1 r1 => ?_
  have r1' := r1
  rw [Rep] at r1'
  obtain ⟨x, dx, e1, e2⟩ := r1'
  refine ⟨x, dx, _, e1, f1.n2 _ _ e2, hm, ?_⟩
  refine h H0 Hn H2 σ _ (s.fx f1) fun vs Hm H3 f2 r2 => ?_
  rw [List.append_nil]
  exact ⟨Hm, a, f2.n2, by rw [he]; exact RepL.cons (r1.mono f2.bn) r2, hp, fun v Hk H4 f3 r3 => k v Hk H4 ((f1.trans f2).trans f3) r3⟩
theorem ed_methD {α : Type} {enc : α → List D} {pre : α → Prop} {g : α → D} {E : XK} {m : Str} {x P y : Int} (a : α) (ho : ED K ta δ ow (.deal x P y)) (h : EA K tr δ ow ds) (he : enc a = .deal x P y :: ds) (hp : pre a) (hm : (dFs x P y).lookup m = none) :
    ED K (tMeth (cD K) m (spA K enc pre g) [] E ta tr) δ ow (g a) := fun H0 Hb H σ Q s k => by
  refine ho H0 Hb H σ _ s fun v Hn H2 f1 r1 => ?_
  have r1' := r1
  rw [Rep] at r1'
  obtain ⟨q, dx, e1, e2⟩ := r1'
  refine ⟨q, dx, _, e1, f1.n2 _ _ e2, hm, ?_⟩
  refine h H0 Hn H2 σ _ (s.fx f1) fun vs Hm H3 f2 r2 => ?_
  rw [List.append_nil]
  exact ⟨Hm, a, f2.n2, by rw [he]; exact RepL.cons (r1.mono f2.bn) r2, hp, fun v Hk H4 f3 r3 => k v Hk H4 ((f1.trans f2).trans f3) r3⟩
end

/-! ### targets -/
def EG (K : PySem.W.Frag) (g : TG) (d : D) (δ δ' : KX.Env) (ow : Own) : Prop := ∀ (H0 Hb H : Hp) (σ : L2.St) (v : V) (Q : L2.St → Hp → Prop), SS K H0 Hb H σ δ ow → Rep K Hb v d → (∀ σ', SS K H0 Hb H σ' δ' ow → Q σ' H) → g v σ H Q
def EGs (K : PySem.W.Frag) (g : TGs) (ds : List D) (δ δ' : KX.Env) (ow : Own) : Prop := ∀ (H0 Hb H : Hp) (σ : L2.St) (vs : List V) (Q : L2.St → Hp → Prop), SS K H0 Hb H σ δ ow → RepL K Hb vs ds → (∀ σ', SS K H0 Hb H σ' δ' ow → Q σ' H) → g vs σ H Q
/-- the own list does not lie in slot i -/
def offO (i : Nat) : Own → Bool
  | none => true
  | some (j, _) => i != j
theorem offO_ok {i : Nat} {ow : Own} (h : offO i ow = true) : ∀ j ds, ow = some (j, ds) → i ≠ j := fun j ds e => by
  subst e
  simpa [offO] using h
section
variable {K : PySem.W.Frag} {δ δ' δ'' : KX.Env} {ow ow' : Own} {ta tb tc te : TE} {tt tu : TT} {tr : TA} {d e : D} {ds : List D} {i j : Int} {b c : Bool} {g : TG} {gs : TGs}
theorem eg_name {n : Nat} (h : offO n ow = true := by rfl) : EG K (gName n) d δ (δ.set n (some d)) ow := fun H0 Hb H σ v Q s r k => k _ (s.set r (offO_ok h))
theorem egs_nil : EGs K gNil [] δ δ ow := fun H0 Hb H σ vs Q s r k => by
  rw [RepL] at r
  exact ⟨r, k _ s⟩
theorem egs_cons (h1 : EG K g d δ δ' ow) (h2 : EGs K gs ds δ' δ'' ow) : EGs K (gCons g gs) (d :: ds) δ δ'' ow := fun H0 Hb H σ vs Q s r k => by
  rw [RepL] at r
  obtain ⟨v, q, e1, e2, e3⟩ := r
  exact ⟨v, q, e1, h1 H0 Hb H σ v _ s e2 fun σ' s' => h2 H0 Hb H σ' q _ s' e3 k⟩
theorem eg_tup {n : Nat} (h : EGs K gs ds δ δ' ow) (hl : ds.length = n := by rfl) : EG K (gTup K n gs) (.tup ds) δ δ' ow := fun H0 Hb H σ v Q s r k => by
  rw [Rep] at r
  obtain ⟨a, vs, e1, e2, e3⟩ := r
  exact ⟨a, vs, e1, Same.tup s.sm e2, by rw [e3.len]; exact hl, h H0 Hb H σ vs _ s e3 k⟩

/-! ### statements -/
variable {N N' : KX.Env → Own → Prop} {R : D → Prop} {ts us ws : TS}
theorem es_seq (h : ES K ts δ ow (fun δ' ow' => ES K us δ' ow' N R) R) : ES K (tSeq ts us) δ ow N R := fun Hb0 H0 Hb H σ En f s kn kr => by
  exact h Hb0 H0 Hb H σ { En with nx := us En } f s (fun δ' ow' Hb' H' σ' f' m s' n => n Hb0 H0 Hb' H' σ' En f' s' (fun δ2 ow2 Hb2 H2 σ2 f2 m2 s2 n2 => kn δ2 ow2 Hb2 H2 σ2 f2 (m.trans m2) s2 n2) kr) kr
theorem es_mono (h : ES K ts δ ow N' R) (q : ∀ δ' ow', N' δ' ow' → N δ' ow') : ES K ts δ ow N R := fun Hb0 H0 Hb H σ En f s kn kr =>
  h Hb0 H0 Hb H σ En f s (fun δ' ow' Hb' H' σ' f' m s' n => kn δ' ow' Hb' H' σ' f' m s' (q _ _ n)) kr
/-- the word between two statements is told -/
theorem es_cut (N' : KX.Env → Own → Prop) (h : ES K ts δ ow N' R) (h2 : ∀ δ' ow', N' δ' ow' → ES K us δ' ow' N R) : ES K (tSeq ts us) δ ow N R := es_seq (es_mono h h2)
theorem es_next (h : N δ ow) : ES K tNext δ ow N R := fun Hb0 H0 Hb H σ En f s kn kr => kn δ ow Hb H σ f (Same.refl _) s h
theorem es_asg (he : ED K te δ ow d) (hg : EG K g d δ δ' ow) (h : N δ' ow) : ES K (tAsg te g) δ ow N R := fun Hb0 H0 Hb H σ En f s kn kr => by
  refine he H0 Hb H σ _ s fun v Hn H2 f1 r1 => ?_
  exact hg H0 Hn H2 σ v _ (s.fx f1) r1 fun σ' s' => kn δ' ow Hn H2 σ' (f.trans f1) f1.bn s' h
theorem es_set {n : Nat} (he : ED K te δ ow d) (h : N (δ.set n (some d)) ow) (ho : offO n ow = true := by rfl) : ES K (tAsg te (gName n)) δ ow N R := es_asg he (eg_name ho) h
theorem es_drop (he : ED K te δ ow d) (h : N δ ow) : ES K (tDrop te) δ ow N R := fun Hb0 H0 Hb H σ En f s kn kr => by
  refine he H0 Hb H σ _ s fun v Hn H2 f1 r1 => ?_
  exact kn δ ow Hn H2 σ (f.trans f1) f1.bn (s.fx f1) h
theorem es_ret (he : ED K te δ ow d) (h : R d) : ES K (tRet te) δ ow N R := fun Hb0 H0 Hb H σ En f s kn kr => by
  refine he H0 Hb H σ _ s fun v Hn H2 f1 r1 => ?_
  exact kr v d Hn H2 (f.trans f1) r1 h
theorem es_if (h : ET K tt δ ow b) (h1 : b = true → ES K ts δ ow N R) (h2 : b = false → ES K us δ ow N R) : ES K (tIfS tt ts us) δ ow N R := fun Hb0 H0 Hb H σ En f s kn kr => by
  refine h H0 Hb H σ _ s fun Hn H2 f1 => ?_
  cases b with
  | true => exact iteT (h1 rfl Hb0 H0 Hn H2 σ En (f.trans f1) (s.fx f1) (fun δ2 ow2 Hb2 H2 σ2 f2 m2 => kn δ2 ow2 Hb2 H2 σ2 f2 (f1.bn.trans m2)) kr)
  | false => exact iteF (h2 rfl Hb0 H0 Hn H2 σ En (f.trans f1) (s.fx f1) (fun δ2 ow2 Hb2 H2 σ2 f2 m2 => kn δ2 ow2 Hb2 H2 σ2 f2 (f1.bn.trans m2)) kr)
theorem es_aug {n : Nat} {f : Int → Int → Int} (hx : δ[n]? = some (some (.int i))) (he : ED K te δ ow (.int j)) (h : N (δ.set n (some (.int (f i j)))) ow) (ho : offO n ow = true := by rfl) : ES K (tAug n te (ipI f)) δ ow N R := fun Hb0 H0 Hb H σ En fx s kn kr => by
  obtain ⟨v, h1, h2⟩ := s.rep n _ hx
  rw [Rep] at h2
  subst h2
  refine ⟨_, h1, ?_⟩
  refine he H0 Hb H σ _ s fun v Hn H2 f1 r1 => ?_
  rw [Rep] at r1
  subst r1
  exact ⟨i, j, rfl, rfl, kn _ ow Hn H2 _ (fx.trans f1) f1.bn ((s.fx f1).set rep_int (offO_ok ho)) h⟩
theorem es_par {n m : Nat} {d1 d2 : D} (he : EA K tr δ ow [d1, d2]) (h : N ((δ.set n (some d1)).set m (some d2)) ow) (ho : offO n ow = true := by rfl) (ho2 : offO m ow = true := by rfl) : ES K (tPar n m tr) δ ow N R := fun Hb0 H0 Hb H σ En fx s kn kr => by
  refine he H0 Hb H σ _ s fun vs Hn H2 f1 r1 => ?_
  rw [RepL] at r1
  obtain ⟨v, q, e1, e2, e3⟩ := r1
  rw [RepL] at e3
  obtain ⟨w, q2, g1, g2, g3⟩ := e3
  rw [RepL] at g3
  subst g3 g1 e1
  exact ⟨v, w, rfl, kn _ ow Hn H2 _ (fx.trans f1) f1.bn (((s.fx f1).set e2 (offO_ok ho)).set g2 (offO_ok ho2)) h⟩
/-- x = []: a list of one's own -/
theorem es_own {n : Nat} (hn : n < δ.length) (h : N (δ.set n none) (some (n, .l []))) : ES K (tAsg (tLst tNil) (gName n)) δ none N R := fun Hb0 H0 Hb H σ En fx s kn kr => by
  refine ⟨Nat.zero_le _, fun p hp => ?_⟩
  have hb : Hb p = none := s.sm.free hp
  have h0 : H0 p = none := fx.s.free hp
  refine kn _ _ Hb _ _ ⟨fx.bn, fx.n2.trans (same_new hp), fx.s.trans (same_new hp), fx.df⟩ (Same.refl _) ?_ h
  refine ⟨s.sm.trans (same_new hp), fun i d e => ?_, by rw [List.length_set, List.length_set, s.len], fun i ds e => ?_⟩
  · by_cases q : n = i
    · subst q
      rw [List.getElem?_set_self hn] at e
      cases e
    · rw [List.getElem?_set_ne q] at e ⊢
      exact s.rep i d e
  · cases e
    exact ⟨by rw [List.getElem?_set_self hn], p, by rw [List.getElem?_set_self (by rw [← s.len]; exact hn)], h0, hb, [], upd_same, RepL.nil⟩
theorem own_upd {H0 Hb H : Hp} {σ : L2.St} {n : Nat} {ds es : List D} {l : Addr} {vs us : List V} {Hb0 : Hp} (fx : Fx Hb0 H0 Hb H) (s : SS K H0 Hb H σ δ (some (n, .l ds))) (h1 : σ[n]? = some (some (.ref l))) (h2 : H0 l = none) (h3 : Hb l = none) (h4 : H l = some (.lst vs)) (r : RepL K Hb us es) :
    Fx Hb0 H0 Hb (upd H l (.lst us)) ∧ SS K H0 Hb (upd H l (.lst us)) σ δ (some (n, .l es)) := by
  have q : ∀ {G : Hp}, Same G H → G l = none → Same G (upd H l (.lst us)) := fun a g b x e => by
    rw [upd_ne (ne_of_none e g)]
    exact a b x e
  refine ⟨⟨fx.bn, q s.sm h3, q fx.s h2, fx.df⟩, q s.sm h3, s.rep, s.len, fun i ds' e => ?_⟩
  cases e
  exact ⟨(s.ownL).1, l, h1, h2, h3, us, upd_same, r⟩
/-- xs.append(e) of the own list -/
theorem es_app {n : Nat} {ds : List D} (he : ED K te δ (some (n, .l ds)) d) (hl : ds.length < 100000) (h : N δ (some (n, .l (ds ++ [d])))) : ES K (tDrop (tBM K "list" rAppend (tVar n) (tCons te tNil))) δ (some (n, .l ds)) N R := fun Hb0 H0 Hb H σ En fx s kn kr => by
  obtain ⟨hd, l, vs, h1, h2, h3, h4, h5⟩ := s.ownL
  refine ⟨_, h1, .inl ⟨rfl, vs, sqL_of h4⟩, ?_⟩
  refine he H0 Hb H σ _ s fun v Hn H2 f1 r1 => ?_
  have s2 := s.fx f1
  have g3 : Hn l = none := f1.df l h3 (by rw [h4]; intro z; cases z)
  have g4 : H2 l = some (.lst vs) := f1.s _ _ h4
  obtain ⟨a1, a2⟩ := own_upd (fx.trans f1) s2 h1 h2 g3 g4 ((h5.mono f1.bn).app (RepL.cons r1 RepL.nil))
  exact ⟨l, vs, v, rfl, rfl, g4, size_lt (by rw [h5.len]; exact hl), kn _ _ _ _ _ a1 f1.bn a2 h⟩
/-- xs[i] = e of the own list -/
theorem es_setO {n j : Nat} {ds : List D} {i : Int} (he : ED K te δ (some (n, .l ds)) d) (hi : ED K ta δ (some (n, .l ds)) (.int i)) (hj : ixN ds.length i = some j) (h : N δ (some (n, .l (ds.set j d)))) : ES K (tAsg te (gSub (tVar n) ta rSetL)) δ (some (n, .l ds)) N R := fun Hb0 H0 Hb H σ En fx s kn kr => by
  refine he H0 Hb H σ _ s fun v Hn H2 f1 r1 => ?_
  have s2 := s.fx f1
  obtain ⟨hd, l, vs, h1, h2, h3, h4, h5⟩ := s2.ownL
  refine ⟨_, h1, ?_⟩
  refine hi H0 Hn H2 σ _ s2 fun w Hm H3 f2 r2 => ?_
  rw [Rep] at r2
  subst r2
  have g3 : Hm l = none := f2.df l h3 (by rw [h4]; intro z; cases z)
  have g4 : H3 l = some (.lst vs) := f2.s _ _ h4
  obtain ⟨a1, a2⟩ := own_upd ((fx.trans f1).trans f2) (s2.fx f2) h1 h2 g3 g4 (RepL.set (r1.mono f2.bn) j (h5.mono f2.bn))
  exact ⟨l, vs, i, j, rfl, rfl, g4, by rw [h5.len]; exact hj, kn _ _ _ _ _ a1 (f1.bn.trans f2.bn) a2 h⟩
/-- from here on the own list is a value like others -/
theorem es_freeze {n : Nat} {ds : List D} (h : ES K ts (δ.set n (some (.lst ds))) none N R) : ES K ts δ (some (n, .l ds)) N R := fun Hb0 H0 Hb H σ En fx s kn kr => by
  obtain ⟨hd, l, vs, h1, h2, h3, h4, h5⟩ := s.ownL
  have sm : Same (upd Hb l (.lst vs)) H := fun b x e => by
    by_cases q : b = l
    · subst q
      rw [upd_same] at e
      rw [h4]
      exact e
    · rw [upd_ne q] at e
      exact s.sm b x e
  have sb : Same Hb (upd Hb l (.lst vs)) := same_new h3
  refine h Hb0 H0 (upd Hb l (.lst vs)) H σ En ⟨fx.bn.trans sb, sm, fx.s, fun b e1 e2 => ?_⟩ ⟨sm, fun i d e => ?_, by rw [List.length_set, s.len], fun i ds' e => ?_⟩ (fun δ2 ow2 Hb2 H2 σ2 f2 m2 => kn δ2 ow2 Hb2 H2 σ2 f2 (sb.trans m2)) kr
  · have q : b ≠ l := fun q => e2 (by rw [q]; exact h2)
    rw [upd_ne q]
    exact fx.df b e1 e2
  · by_cases q : n = i
    · subst q
      have hn : n < δ.length := (List.getElem?_eq_some_iff.mp hd).1
      rw [List.getElem?_set_self hn] at e
      have : D.lst ds = d := by simpa using e
      subst this
      exact ⟨_, h1, rep_lst upd_same (h5.mono sb)⟩
    · rw [List.getElem?_set_ne q] at e
      obtain ⟨v, g1, g2⟩ := s.rep i d e
      exact ⟨v, g1, g2.mono sb⟩
  · cases e

end
end KX
namespace KX
open PySem PySem.Spec PyProof.Rows L2

/-! ### what is walked -/
structure Src (K : PySem.W.Frag) (J : It) (n : Nat) (Hn : Hp) (item : Nat → D) : Prop where
  ex : ∃ (G : Hp → Prop) (Y : Nat → Hp → V → Hp → Prop), Walk J n G Y ∧ (∀ H', Same Hn H' → G H') ∧ ∀ i Hc Hx x Hy, i < n → Same Hn Hc → Same Hc Hx → Y i Hx x Hy → ∃ Hm, Fx Hc Hx Hm Hy ∧ Rep K Hm x (item i)
def EI (K : PySem.W.Frag) (wi : TI) (δ : KX.Env) (ow : Own) (n : Nat) (item : Nat → D) : Prop := ∀ (H0 Hb H : Hp) (σ : L2.St) (R : It → Hp → Prop), SS K H0 Hb H σ δ ow → (∀ J Hn H2, Fx Hb H Hn H2 → Src K J n Hn item → R J H2) → wi σ H R
section
variable {K : PySem.W.Frag} {δ δ' : KX.Env} {ow ow' : Own} {ta tb te : TE} {tt : TT} {tr : TA} {d : D} {ds : List D} {i j : Int}
theorem getD_some {α : Type} {l : List α} {i : Nat} {d e : α} (h : l[i]? = some d) : l.getD i e = d := by
  rw [List.getD_eq_getElem?_getD, h]
  rfl
theorem ei_list (h : ED K te δ ow (.lst ds)) : EI K (iList K te) δ ow ds.length (fun i => ds.getD i .non) := fun H0 Hb H σ R s k => by
  refine h H0 Hb H σ _ s fun v Hn H2 f1 r1 => ?_
  rw [Rep] at r1
  obtain ⟨a, vs, e1, e2, e3⟩ := r1
  refine ⟨a, e1, ⟨vs, sqL_of (f1.n2 _ _ e2)⟩, k _ Hn H2 f1 ⟨fun H => SqL K H a vs, YAt vs, ?_, fun H' m => sqL_of (m _ _ e2), fun i Hc Hx x Hy hi m1 m2 y => ?_⟩⟩
  · rw [← e3.len]
    exact walk_list
  · obtain ⟨rfl, y⟩ := y
    obtain ⟨d, h1, h2⟩ := e3.get' y
    exact ⟨Hc, .refl m2, by rw [getD_some h1]; exact h2.mono m1⟩
theorem ei_tup (h : ED K te δ ow (.tup ds)) : EI K (iTup K te) δ ow ds.length (fun i => ds.getD i .non) := fun H0 Hb H σ R s k => by
  refine h H0 Hb H σ _ s fun v Hn H2 f1 r1 => ?_
  rw [Rep] at r1
  obtain ⟨a, vs, e1, e2, e3⟩ := r1
  refine ⟨a, e1, ⟨vs, Same.tup f1.n2 e2⟩, k _ Hn H2 f1 ⟨fun H => SqT K H a vs, YAt vs, ?_, fun H' m => Same.tup m e2, fun i Hc Hx x Hy hi m1 m2 y => ?_⟩⟩
  · rw [← e3.len]
    exact walk_tup
  · obtain ⟨rfl, y⟩ := y
    obtain ⟨d, h1, h2⟩ := e3.get' y
    exact ⟨Hc, .refl m2, by rw [getD_some h1]; exact h2.mono m1⟩
theorem ei_range (h : EA K tr δ ow [.int j]) (hj : -100000 ≤ j ∧ j ≤ 100000) : EI K (iRng1 tr) δ ow j.toNat (fun i => .int (i : Int)) := fun H0 Hb H σ R s k => by
  refine h H0 Hb H σ _ s fun vs Hn H2 f1 r1 => ?_
  rw [RepL] at r1
  obtain ⟨v, q, e1, e2, e3⟩ := r1
  rw [RepL] at e3
  rw [Rep] at e2
  subst e3 e2 e1
  refine ⟨j, rfl, by omega, by omega, k _ Hn H2 f1 ⟨fun _ => True, _, walk_range, fun _ _ => trivial, fun i Hc Hx x Hy hi m1 m2 y => ?_⟩⟩
  obtain ⟨rfl, rfl⟩ := y
  refine ⟨Hc, .refl m2, ?_⟩
  rw [Rep]
  show V.int (0 + (i : Int)) = V.int (i : Int)
  rw [Int.zero_add]
theorem ei_enum (h : EA K tr δ ow [.lst ds]) : EI K (iEnum K tr) δ ow ds.length (fun i => .tup [.int (i : Int), ds.getD i .non]) := fun H0 Hb H σ R s k => by
  refine h H0 Hb H σ _ s fun vs Hn H2 f1 r1 => ?_
  rw [RepL] at r1
  obtain ⟨v, q, e1, e2, e3⟩ := r1
  rw [RepL] at e3
  rw [Rep] at e2
  obtain ⟨a, us, g1, g2, g3⟩ := e2
  subst e3 g1 e1
  refine ⟨a, us, rfl, sqL_of (f1.n2 _ _ g2), k _ Hn H2 f1 ⟨fun H => SqL K H a us, YPair (fun i => some (.int (i : Nat))) (fun i => us[i]?), ?_, fun H' m => sqL_of (m _ _ g2), fun i Hc Hx x Hy hi m1 m2 y => ?_⟩⟩
  · rw [← g3.len]
    exact walk_enum
  · obtain ⟨T, x1, x2, rfl, hT, rfl, h1, h2⟩ := y
    have e : x1 = .int (i : Nat) := (Option.some.inj h1).symm
    subst e
    obtain ⟨d, h3, h4⟩ := g3.get' h2
    have f := Fx.new m2 (.tup [.int (i : Nat), x2]) hT
    exact ⟨_, f, rep_tup (sqT_of upd_same) (RepL.cons rep_int (RepL.cons (by rw [getD_some h3]; exact (h4.mono m1).mono f.bn) RepL.nil))⟩

/-! ### loops -/
variable {N N' : KX.Env → Own → Prop} {R : D → Prop} {ts us ws : TS} {g : TG} {wi : TI} {n : Nat} {item : Nat → D}
theorem es_for (he : EI K wi δ ow n item) (I : Nat → KX.Env → Own → Prop) (h0 : I 0 δ ow)
    (hs : ∀ i δ' ow', i < n → I i δ' ow' → ∃ δ'', EG K g (item i) δ' δ'' ow' ∧ ES K ts δ'' ow' (I (i + 1)) R) (hd : ∀ δ' ow', I n δ' ow' → N δ' ow') : ES K (tFor wi g ts) δ ow N R := fun Hb0 H0 Hb H σ En fx s kn kr => by
  refine he H0 Hb H σ _ s fun J Hn H2 f1 src => ?_
  obtain ⟨G, Y, hw, hG, hY⟩ := src.ex
  refine for_it hw (fun i σ' H' => ∃ Hb' δ' ow', Fx Hb0 H0 Hb' H' ∧ SS K H0 Hb' H' σ' δ' ow' ∧ Same Hn Hb' ∧ I i δ' ow') ⟨Hn, δ, ow, fx.trans f1, s.fx f1, Same.refl _, h0⟩ ?_ ?_ ?_
  · rintro i σ' H' _ ⟨Hb', δ', ow', a1, a2, a3, a4⟩
    exact hG H' (a3.trans a2.sm)
  · rintro i x σ' Hx Hy hi ⟨Hb', δ', ow', a1, a2, a3, a4⟩ y
    obtain ⟨Hm, f2, hr⟩ := hY i Hb' Hx x Hy hi a3 a2.sm y
    obtain ⟨δ'', hg, hb⟩ := hs i δ' ow' hi a4
    refine hg H0 Hm Hy σ' x _ (a2.fx f2) hr fun σ2 s2 => ?_
    exact hb Hb0 H0 Hm Hy σ2 _ (a1.trans f2) s2 (fun δ3 ow3 Hb3 H3 σ3 f3 m3 s3 i3 => ⟨Hb3, δ3, ow3, f3, s3, (a3.trans f2.bn).trans m3, i3⟩) kr
  · rintro σ' H' ⟨Hb', δ', ow', a1, a2, a3, a4⟩
    exact kn δ' ow' Hb' H' σ' a1 (f1.bn.trans a3) a2 (hd δ' ow' a4)
/-- while, I by a measure -/
theorem es_while (I : Nat → KX.Env → Own → Prop) (m0 : Nat) (h0 : I m0 δ ow)
    (hs : ∀ m δ' ow', I m δ' ow' → ∃ b, ET K tt δ' ow' b ∧ (b = true → ES K ts δ' ow' (fun δ2 ow2 => ∃ m', m' < m ∧ I m' δ2 ow2) R) ∧ (b = false → N δ' ow')) : ES K (tWhile tt ts) δ ow N R := fun Hb0 H0 Hb H σ En fx s kn kr => by
  refine ⟨fun m σ' H' => ∃ Hb' δ' ow', Fx Hb0 H0 Hb' H' ∧ SS K H0 Hb' H' σ' δ' ow' ∧ Same Hb Hb' ∧ I m δ' ow', ⟨m0, Hb, δ, ow, fx, s, Same.refl _, h0⟩, ?_⟩
  rintro m σ' H' ⟨Hb', δ', ow', a1, a2, a3, a4⟩
  obtain ⟨b, hb, h1, h2⟩ := hs m δ' ow' a4
  refine hb H0 Hb' H' σ' _ a2 fun Hn H2 f => ?_
  cases b with
  | true =>
    refine iteT ⟨fun σ2 G2 => ∃ m', m' < m ∧ ∃ Hb2 δ2 ow2, Fx Hb0 H0 Hb2 G2 ∧ SS K H0 Hb2 G2 σ2 δ2 ow2 ∧ Same Hb Hb2 ∧ I m' δ2 ow2, fun σ2 G2 z => z, ?_⟩
    refine h1 rfl Hb0 H0 Hn H2 σ' _ (a1.trans f) (a2.fx f) (fun δ2 ow2 Hb2 G2 σ2 f2 m2 s2 n2 => ?_) kr
    obtain ⟨m', lt, i2⟩ := n2
    exact ⟨m', lt, Hb2, δ2, ow2, f2, s2, (a3.trans f.bn).trans m2, i2⟩
  | false => exact iteF (kn δ' ow' Hn H2 σ' (a1.trans f) (a3.trans f.bn) (a2.fx f) (h2 rfl))

/-! ### comprehensions -/
/-- the slots of vs forgotten -/
abbrev forgets {α : Type} (l : List (Option α)) (vs : List Nat) : List (Option α) := vs.foldr (fun v r => r.set v none) l
theorem forgets_len {α : Type} (l : List (Option α)) (vs : List Nat) : (forgets l vs).length = l.length := by
  induction vs with
  | nil => rfl
  | cons v vs ih => exact (List.length_set ..).trans ih
/-- place by place -/
theorem forgets_at {α : Type} (l : List (Option α)) (i : Nat) (vs : List Nat) : (forgets l vs)[i]? = if i ∈ vs ∧ i < l.length then some none else l[i]? := by
  induction vs with
  | nil => simp
  | cons v vs ih =>
    show ((forgets l vs).set v none)[i]? = _
    rw [List.getElem?_set, forgets_len]
    by_cases hv : v = i
    · subst hv
      by_cases hl : v < l.length
      · simp [hl]
      · simp [hl]
    · rw [if_neg hv, ih]
      simp only [List.mem_cons, Ne.symm hv, false_or]
def wipeD (δ : KX.Env) (vs : List Nat) : KX.Env := forgets δ vs
theorem wipe_forgets (σ : L2.St) (vs : List Nat) : L2.wipe σ vs = forgets σ vs := by
  induction vs with
  | nil => rfl
  | cons v vs ih => exact congrArg (fun r => r.set v none) ih
theorem wipeD_length (δ : KX.Env) (vs : List Nat) : (wipeD δ vs).length = δ.length := forgets_len δ vs
theorem wipeD_out {δ : KX.Env} {i : Nat} {vs : List Nat} (h : i ∉ vs) : (wipeD δ vs)[i]? = δ[i]? := by
  show (forgets δ vs)[i]? = _
  rw [forgets_at, if_neg (fun z => h z.1)]
theorem wipe_out {σ : L2.St} {i : Nat} {vs : List Nat} (h : i ∉ vs) : (L2.wipe σ vs)[i]? = σ[i]? := by
  rw [wipe_forgets, forgets_at, if_neg (fun z => h z.1)]
theorem wipeD_some {δ : KX.Env} {i : Nat} {x : D} {vs : List Nat} (h : (wipeD δ vs)[i]? = some (some x)) : δ[i]? = some (some x) ∧ i ∉ vs := by
  have q : (forgets δ vs)[i]? = some (some x) := h
  rw [forgets_at] at q
  split at q
  · cases q
  · rename_i no
    exact ⟨q, fun z => no ⟨z, (List.getElem?_eq_some_iff.mp q).1⟩⟩
theorem wipe_ext {σ τ : L2.St} {vs : List Nat} (hl : σ.length = τ.length) (h : ∀ i, i ∉ vs → σ[i]? = τ[i]?) : L2.wipe σ vs = L2.wipe τ vs := by
  rw [wipe_forgets, wipe_forgets]
  refine List.ext_getElem? fun i => ?_
  rw [forgets_at, forgets_at, ← hl]
  split
  · rfl
  · rename_i no
    by_cases q : i ∈ vs
    · have e : σ.length ≤ i := Nat.le_of_not_lt fun z => no ⟨q, z⟩
      rw [List.getElem?_eq_none e, List.getElem?_eq_none (hl ▸ e)]
    · exact h i q
theorem wipe_wipe (σ : L2.St) (vs : List Nat) : L2.wipe (L2.wipe σ vs) vs = L2.wipe σ vs := wipe_ext (wipe_length _ _) fun i h => wipe_out h
theorem SS.wipe {H0 Hb H : Hp} {σ : L2.St} {vs : List Nat} (s : SS K H0 Hb H σ δ ow) (ho : ∀ v ∈ vs, offO v ow = true) : SS K H0 Hb H (wipe σ vs) (wipeD δ vs) ow := by
  refine ⟨s.sm, fun i d e => ?_, by rw [wipe_length, wipeD_length, s.len], fun i ds e => ?_⟩
  · obtain ⟨h1, h2⟩ := wipeD_some e
    rw [wipe_out h2]
    exact s.rep i d h1
  · have hv : i ∉ vs := fun z => offO_ok (ho i z) i ds e rfl
    rw [wipe_out hv, wipeD_out hv]
    exact s.own i ds e
/-- the target writes the block's own names alone -/
def GW (g : TG) (vs : List Nat) : Prop := ∀ (v : V) (σ : L2.St) (H : Hp) (Q : L2.St → Hp → Prop), g v σ H Q → g v σ H fun σ2 H2 => L2.wipe σ2 vs = L2.wipe σ vs ∧ Q σ2 H2
def GWs (g : TGs) (vs : List Nat) : Prop := ∀ (xs : List V) (σ : L2.St) (H : Hp) (Q : L2.St → Hp → Prop), g xs σ H Q → g xs σ H fun σ2 H2 => L2.wipe σ2 vs = L2.wipe σ vs ∧ Q σ2 H2
theorem gw_name {m : Nat} {vs : List Nat} (h : m ∈ vs) : GW (gName m) vs := fun v σ H Q q => ⟨wipe_ext (List.length_set ..) fun i hi => List.getElem?_set_ne fun e => hi (by rw [← e]; exact h), q⟩
theorem gws_nil {vs : List Nat} : GWs gNil vs := fun xs σ H Q q => ⟨q.1, rfl, q.2⟩
theorem gws_cons {gs : TGs} {vs : List Nat} (mo : ∀ v σ H (Q Q' : L2.St → Hp → Prop), (∀ σ2 H2, Q σ2 H2 → Q' σ2 H2) → g v σ H Q → g v σ H Q') (h1 : GW g vs) (h2 : GWs gs vs) : GWs (gCons g gs) vs := fun xs σ H Q q => by
  obtain ⟨v, r, e, q⟩ := q
  refine ⟨v, r, e, mo v σ H _ _ (fun σ2 H2 z => ?_) (h1 v σ H _ q)⟩
  obtain ⟨z1, z2⟩ := z
  rw [← z1]
  exact h2 r σ2 H2 Q z2
theorem mo_name {m : Nat} : ∀ v σ H (Q Q' : L2.St → Hp → Prop), (∀ σ2 H2, Q σ2 H2 → Q' σ2 H2) → gName m v σ H Q → gName m v σ H Q' := fun v σ H Q Q' h q => h _ _ q
theorem gw_tup {gs : TGs} {vs : List Nat} {n : Nat} (h : GWs gs vs) : GW (gTup K n gs) vs := fun v σ H Q q => by
  obtain ⟨a, xs, e, e2, e3, q⟩ := q
  exact ⟨a, xs, e, e2, e3, h xs σ H Q q⟩
theorem GW.at_ {vs : List Nat} (h : GW g vs) {v : V} {σ : L2.St} {H : Hp} {Q : L2.St → Hp → Prop} (q : g v (L2.wipe σ vs) H Q) : g v (L2.wipe σ vs) H fun σ2 H2 => L2.wipe σ2 vs = L2.wipe σ vs ∧ Q σ2 H2 := by
  have z := h v (L2.wipe σ vs) H Q q
  rw [wipe_wipe] at z
  exact z
/-- [te for g in wi if tt]: f i whether the i-th is taken, v i what comes of it -/
theorem ed_lc {vs : List Nat} (he : EI K wi δ ow n item) (hw : GW g vs) (ho : ∀ v ∈ vs, offO v ow = true) (hn : n ≤ 50000) (f : Nat → Bool) (v : Nat → D)
    (hs : ∀ i, i < n → ∃ δ', EG K g (item i) (wipeD δ vs) δ' ow ∧ ET K tt δ' ow (f i) ∧ (f i = true → ED K te δ' ow (v i))) : ED K (tLc wi g tt te vs) δ ow (.lst (((List.range n).filter f).map v)) := fun H0 Hb H σ Q s k => by
  refine he H0 Hb H σ _ s fun J Hn H2 f1 src D0 hD => ?_
  obtain ⟨G, Y, hwk, hG, hY⟩ := src.ex
  have s1 := s.fx f1
  have hnD : Hn D0 = none := f1.n2.free hD
  refine lc_it hwk (fun i H' => ∃ Hb' us, Same Hn Hb' ∧ Same Hb' H' ∧ Same H2 H' ∧ (∀ b, Hn b = none → H2 b ≠ none → Hb' b = none) ∧ Hb' D0 = none ∧ H' D0 = some (.lst us) ∧ RepL K Hb' us (((List.range i).filter f).map v)) ?_ ?_ ?_ ?_
  · exact ⟨Hn, [], Same.refl _, f1.n2.trans (same_new hD), same_new hD, fun _ h _ => h, hnD, upd_same, RepL.nil⟩
  · rintro i H' _ ⟨Hb', us, a1, a2, a3, a4, a5, a6, a7⟩
    exact hG H' (a1.trans a2)
  · rintro i x Hx Hy hi ⟨Hb', us, a1, a2, a3, a4, a5, a6, a7⟩ y
    obtain ⟨Hm, f2, hr⟩ := hY i Hb' Hx x Hy hi a1 a2 y
    obtain ⟨δ', hg, ht, hv⟩ := hs i hi
    have fx : Fx Hn H2 Hb' Hx := ⟨a1, a2, a3, a4⟩
    have s2 := ((s1.fx fx).fx f2).wipe ho
    refine hw.at_ (hg H0 Hm Hy _ x _ s2 hr fun σ2 s3 => ?_)
    refine ht H0 Hm Hy σ2 _ s3 fun Hk H3 f3 => ?_
    have g0 : Hm D0 = none := f2.df D0 a5 (by rw [a6]; intro z; cases z)
    have g1 : Hy D0 = some (.lst us) := f2.s _ _ a6
    have g2 : Hk D0 = none := f3.df D0 g0 (by rw [g1]; intro z; cases z)
    have g3 : H3 D0 = some (.lst us) := f3.s _ _ g1
    have f4 := (fx.trans f2).trans f3
    cases q : f i with
    | true =>
      refine iteT (hv q H0 Hk H3 σ2 _ (s3.fx f3) fun z Hj H4 f5 r5 => ⟨us, f5.s _ _ g3, size_lt ?_, Hj, us ++ [z], f4.bn.trans f5.bn, ?_, ?_, (f4.trans f5).df, f5.df D0 g2 (by rw [g3]; intro z; cases z), upd_same, ?_⟩)
      · rw [a7.len, List.length_map]
        have := List.length_filter_le f (List.range i)
        rw [List.length_range] at this
        omega
      · have g4 : Hj D0 = none := f5.df D0 g2 (by rw [g3]; intro z; cases z)
        intro b x e
        rw [upd_ne (ne_of_none e g4)]
        exact f5.n2 b x e
      · intro b x e
        rw [upd_ne (ne_of_none e hD)]
        exact (f4.trans f5).s b x e
      · rw [List.range_succ, List.filter_append, List.map_append, List.filter_cons, if_pos q]
        exact (((a7.mono f2.bn).mono f3.bn).mono f5.bn).app (RepL.cons r5 RepL.nil)
    | false =>
      refine iteF ⟨Hk, us, f4.bn, f4.n2, f4.s, f4.df, g2, g3, ?_⟩
      rw [List.range_succ, List.filter_append, List.map_append, List.filter_cons, if_neg (by rw [q]; decide)]
      show RepL K Hk us (_ ++ [])
      rw [List.append_nil]
      exact (a7.mono f2.bn).mono f3.bn
  · rintro H' ⟨Hb', us, a1, a2, a3, a4, a5, a6, a7⟩
    have sb : Same Hb' (upd Hb' D0 (.lst us)) := same_new a5
    refine k _ (upd Hb' D0 (.lst us)) H' (f1.trans ⟨a1.trans sb, fun b x e => ?_, a3, fun b e1 e2 => ?_⟩) (rep_lst upd_same (a7.mono sb))
    · by_cases q : b = D0
      · subst q
        rw [upd_same] at e
        rw [a6]
        exact e
      · rw [upd_ne q] at e
        exact a2 b x e
    · have q : b ≠ D0 := fun q => e2 (by rw [q]; exact hD)
      rw [upd_ne q]
      exact a4 b e1 e2
theorem et_yes : ET K tYes δ ow true := fun H0 Hb H σ Q s k => k Hb H (.refl s.sm)
end
end KX
namespace KX
open PySem PySem.Spec PyProof.Rows L2

/-! ### built-ins by data -/
section
variable {K : PySem.W.Frag} {δ : KX.Env} {ow : Own} {ta tb te : TE} {tr : TA} {d : D} {ds : List D} {i j : Int} {b : Bool}
theorem repl1 {H : Hp} {vs : List V} {d : D} (r : RepL K H vs [d]) : ∃ v, vs = [v] ∧ Rep K H v d := by
  rw [RepL] at r
  obtain ⟨v, q, e1, e2, e3⟩ := r
  rw [RepL] at e3
  subst e3
  exact ⟨v, e1, e2⟩
theorem repl2 {H : Hp} {vs : List V} {d e : D} (r : RepL K H vs [d, e]) : ∃ v w, vs = [v, w] ∧ Rep K H v d ∧ Rep K H w e := by
  rw [RepL] at r
  obtain ⟨v, q, e1, e2, e3⟩ := r
  obtain ⟨w, f1, f2⟩ := repl1 e3
  subst f1
  exact ⟨v, w, e1, e2, f2⟩
theorem rd_abs : RD K (fun xs H Q => ∃ i, xs = [.int i] ∧ Q (.int (if i < 0 then -i else i)) H) [.int i] (.int (if i < 0 then -i else i)) := fun Hb H vs Q s r k => by
  obtain ⟨v, e1, e2⟩ := repl1 r
  rw [Rep] at e2
  subst e2 e1
  exact ⟨i, rfl, k _ Hb H (.refl s) rep_int⟩
theorem rd_max2 : RD K (fun xs H Q => ∃ i j, xs = [.int i, .int j] ∧ Q (.int (if j > i then j else i)) H) [.int i, .int j] (.int (if j > i then j else i)) := fun Hb H vs Q s r k => by
  obtain ⟨v, w, e1, e2, e3⟩ := repl2 r
  rw [Rep] at e2
  rw [Rep] at e3
  subst e2 e3 e1
  exact ⟨i, j, rfl, k _ Hb H (.refl s) rep_int⟩
theorem rd_min2 : RD K (fun xs H Q => ∃ i j, xs = [.int i, .int j] ∧ Q (.int (if j < i then j else i)) H) [.int i, .int j] (.int (if j < i then j else i)) := fun Hb H vs Q s r k => by
  obtain ⟨v, w, e1, e2, e3⟩ := repl2 r
  rw [Rep] at e2
  rw [Rep] at e3
  subst e2 e3 e1
  exact ⟨i, j, rfl, k _ Hb H (.refl s) rep_int⟩
abbrev rInt1 : List V → Hp → VK → Prop := fun xs H Q => (∃ i, xs = [.int i] ∧ Q (.int i) H) ∨ ∃ k, xs = [.bl k] ∧ Q (.int (if k then 1 else 0)) H
theorem rd_int : RD K rInt1 [.int i] (.int i) := fun Hb H vs Q s r k => by
  obtain ⟨v, e1, e2⟩ := repl1 r
  rw [Rep] at e2
  subst e2 e1
  exact .inl ⟨i, rfl, k _ Hb H (.refl s) rep_int⟩
theorem rd_intB : RD K rInt1 [.bl b] (.int (if b then 1 else 0)) := fun Hb H vs Q s r k => by
  obtain ⟨v, e1, e2⟩ := repl1 r
  rw [Rep] at e2
  subst e2 e1
  exact .inr ⟨b, rfl, k _ Hb H (.refl s) rep_int⟩
abbrev rLenQ (K : PySem.W.Frag) : List V → Hp → VK → Prop := fun xs H Q => ∃ p ys, xs = [.ref p] ∧ (SqL K H p ys ∨ SqT K H p ys) ∧ Q (.int ys.length) H
theorem rd_lenL : RD K (rLenQ K) [.lst ds] (.int (ds.length : Nat)) := fun Hb H vs Q s r k => by
  obtain ⟨v, e1, e2⟩ := repl1 r
  rw [Rep] at e2
  obtain ⟨a, us, g1, g2, g3⟩ := e2
  subst g1 e1
  exact ⟨a, us, rfl, .inl (sqL_of (s _ _ g2)), k _ Hb H (.refl s) (by rw [g3.len]; exact rep_int)⟩
theorem rd_lenT : RD K (rLenQ K) [.tup ds] (.int (ds.length : Nat)) := fun Hb H vs Q s r k => by
  obtain ⟨v, e1, e2⟩ := repl1 r
  rw [Rep] at e2
  obtain ⟨a, us, g1, g2, g3⟩ := e2
  subst g1 e1
  exact ⟨a, us, rfl, .inr (Same.tup s g2), k _ Hb H (.refl s) (by rw [g3.len]; exact rep_int)⟩
theorem rd_sum {ns : List Int} : RD K (rSum K) [.lst (ns.map D.int)] (.int ns.sum) := fun Hb H vs Q s r k => by
  obtain ⟨v, e1, e2⟩ := repl1 r
  rw [Rep] at e2
  obtain ⟨a, us, g1, g2, g3⟩ := e2
  subst g1 e1
  rw [repl_int g3] at g2
  exact ⟨a, ns, rfl, sqL_of (s _ _ g2), k _ Hb H (.refl s) rep_int⟩
theorem rd_any {ns : List Bool} : RD K (rAny K) [.lst (ns.map D.bl)] (.bl (ns.any id)) := fun Hb H vs Q s r k => by
  obtain ⟨v, e1, e2⟩ := repl1 r
  rw [Rep] at e2
  obtain ⟨a, us, g1, g2, g3⟩ := e2
  subst g1 e1
  rw [repl_bl g3] at g2
  exact ⟨a, ns, rfl, sqL_of (s _ _ g2), k _ Hb H (.refl s) rep_bl⟩
theorem rd_all {ns : List Bool} : RD K (rAll K) [.lst (ns.map D.bl)] (.bl (ns.all id)) := fun Hb H vs Q s r k => by
  obtain ⟨v, e1, e2⟩ := repl1 r
  rw [Rep] at e2
  obtain ⟨a, us, g1, g2, g3⟩ := e2
  subst g1 e1
  rw [repl_bl g3] at g2
  exact ⟨a, ns, rfl, sqL_of (s _ _ g2), k _ Hb H (.refl s) rep_bl⟩
theorem rd_minL {ns : List Int} {m : Int} (hm : m ∈ ns) (hl : ∀ y ∈ ns, m ≤ y) : RD K (rMin K) [.lst (ns.map D.int)] (.int m) := fun Hb H vs Q s r k => by
  obtain ⟨v, e1, e2⟩ := repl1 r
  rw [Rep] at e2
  obtain ⟨a, us, g1, g2, g3⟩ := e2
  subst g1 e1
  rw [repl_int g3] at g2
  refine ⟨a, ns, rfl, sqL_of (s _ _ g2), List.length_pos_of_mem hm, fun x hx hy => ?_⟩
  have e : x = m := Int.le_antisymm (hy m hm) (hl x hx)
  rw [e]
  exact k _ Hb H (.refl s) rep_int
theorem rd_maxL {ns : List Int} {m : Int} (hm : m ∈ ns) (hl : ∀ y ∈ ns, y ≤ m) : RD K (rMax K) [.lst (ns.map D.int)] (.int m) := fun Hb H vs Q s r k => by
  obtain ⟨v, e1, e2⟩ := repl1 r
  rw [Rep] at e2
  obtain ⟨a, us, g1, g2, g3⟩ := e2
  subst g1 e1
  rw [repl_int g3] at g2
  refine ⟨a, ns, rfl, sqL_of (s _ _ g2), List.length_pos_of_mem hm, fun x hx hy => ?_⟩
  have e : x = m := Int.le_antisymm (hl x hx) (hy m hm)
  rw [e]
  exact k _ Hb H (.refl s) rep_int
abbrev rTupOf (K : PySem.W.Frag) : List V → Hp → VK → Prop := fun xs H Q => ∃ p ys, xs = [.ref p] ∧ ((SqL K H p ys ∧ ∀ l, H l = none → Q (.ref l) (upd H l (.tup ys))) ∨ (SqT K H p ys ∧ Q (.ref p) H))
theorem rd_tupL : RD K (rTupOf K) [.lst ds] (.tup ds) := fun Hb H vs Q s r k => by
  obtain ⟨v, e1, e2⟩ := repl1 r
  rw [Rep] at e2
  obtain ⟨a, us, g1, g2, g3⟩ := e2
  subst g1 e1
  refine ⟨a, us, rfl, .inl ⟨sqL_of (s _ _ g2), fun l hl => ?_⟩⟩
  have f := Fx.new s (.tup us) hl
  exact k _ _ _ f (rep_tup (sqT_of upd_same) (g3.mono f.bn))
abbrev rDivmod : List V → Hp → VK → Prop := fun xs H Q => ∃ i j, xs = [.int i, .int j] ∧ CDivP i j ∧ ∀ p, H p = none → Q (.ref p) (upd H p (.tup [.int (i / j), .int (i % j)]))
theorem rd_divmod (hc : CDivP i j) : RD K rDivmod [.int i, .int j] (.tup [.int (i / j), .int (i % j)]) := fun Hb H vs Q s r k => by
  obtain ⟨v, w, e1, e2, e3⟩ := repl2 r
  rw [Rep] at e2
  rw [Rep] at e3
  subst e2 e3 e1
  refine ⟨i, j, rfl, hc, fun p hp => ?_⟩
  have f := Fx.new s (.tup [.int (i / j), .int (i % j)]) hp
  exact k _ _ _ f (rep_tup (sqT_of upd_same) (RepL.cons rep_int (RepL.cons rep_int RepL.nil)))
/-- what isinstance asks of the two classes of one's own -/
structure IsC (K : PySem.W.Frag) (C : Addr) : Prop where
  cl : Cls K C
  ha : PySem.W.findIn K (.ref C) "__class__" = some (some (.builtin "object.__class__"))
  hn : PySem.W.specialIn K (.builtin "object.__class__") "__get__" = some (some (.builtin "getset_descriptor.__get__"))
  ht : PySem.W.takesIn K (.builtin "object.__class__") = some true
  hm : PySem.W.mroIn K C (.type "object") = some true
  self : PySem.W.kitOne K (.ref C) (.ref C) = some true
def tyD (K : PySem.W.Frag) : D → Value
  | .bl _ => .type "bool"
  | .int _ => .type "int"
  | .str _ => .type "str"
  | .wt _ => .ref (cW K)
  | .deal _ _ _ => .ref (cD K)
  | .lst _ => .type "list"
  | .tup _ => .type "tuple"
  | _ => .type "NoneType"
def tyOk : D → Bool
  | .ty _ => false
  | .adr _ => false
  | .sd _ => false
  | _ => true
theorem tyX_of (w : IsC K (cW K)) (c : IsC K (cD K)) {H : Hp} {v : V} {d : D} (r : Rep K H v d) (h : tyOk d = true) : TyX K H v (tyD K d) := by
  cases d with
  | non => rw [Rep] at r; subst r; exact .base .non
  | bl b => rw [Rep] at r; subst r; exact .base (.bl b)
  | int i => rw [Rep] at r; subst r; exact .base (.int i)
  | str i => rw [Rep] at r; subst r; exact .base (.str i)
  | wt n =>
    rw [Rep] at r
    obtain ⟨a, dx, e1, e2⟩ := r
    subst e1
    exact .base (.ins e2 w.cl w.ha w.hn w.ht w.hm)
  | deal x P y =>
    rw [Rep] at r
    obtain ⟨a, dx, e1, e2⟩ := r
    subst e1
    exact .base (.ins e2 c.cl c.ha c.hn c.ht c.hm)
  | lst l =>
    rw [Rep] at r
    obtain ⟨a, vs, e1, e2, _⟩ := r
    subst e1
    exact .base (.lst e2)
  | tup l =>
    rw [Rep] at r
    obtain ⟨a, vs, e1, e2, _⟩ := r
    subst e1
    rcases e2 with (e2 | ⟨o, e2⟩) | e2
    · exact .base (.tup e2)
    · exact .fTuple e2
    · obtain ⟨o, its, n, h1, h2, _⟩ := e2
      exact .kTuple h1 h2
  | ty _ => cases h
  | adr _ => cases h
  | sd _ => cases h
theorem rd_isi {n : String} (w : IsC K (cW K)) (c : IsC K (cD K)) (h : tyOk d = true) (q : PySem.W.kitOne K (tyD K d) (.type n) = some b) : RD K (rIsi K) [d, .ty n] (.bl b) := fun Hb H vs Q s r k => by
  obtain ⟨v, u, e1, e2, e3⟩ := repl2 r
  rw [Rep] at e3
  subst e3 e1
  exact ⟨v, _, _, _, b, rfl, .ty n, tyX_of w c (e2.mono s) h, q, k _ Hb H (.refl s) rep_bl⟩
theorem rd_isiC {C : Addr} (w : IsC K (cW K)) (c : IsC K (cD K)) (h : tyOk d = true) (q : PySem.W.kitOne K (tyD K d) (.ref C) = some b) : RD K (rIsi K) [d, .adr C] (.bl b) := fun Hb H vs Q s r k => by
  obtain ⟨v, u, e1, e2, e3⟩ := repl2 r
  rw [Rep] at e3
  subst e3 e1
  exact ⟨v, _, _, _, b, rfl, .own C, tyX_of w c (e2.mono s) h, q, k _ Hb H (.refl s) rep_bl⟩
/-- isinstance(x, (S, T)) -/
theorem ed_isi2 {n m : String} (w : IsC K (cW K)) (c : IsC K (cD K)) (ha : ED K ta δ ow d) (h : tyOk d = true) (q : PySem.W.kitAny K (tyD K d) [.type n, .type m] = some b) :
    ED K (tCB (rIsiT K) (tCons ta (tCons (tTup (tCons (tC (.ty n)) (tCons (tC (.ty m)) tNil))) tNil))) δ ow (.bl b) := fun H0 Hb H σ Q s k => by
  refine ha H0 Hb H σ _ s fun v Hn H2 f1 r1 => ⟨by show 2 ≤ sizeLine; decide, fun p hp => ?_⟩
  have f2 := Fx.new f1.n2 (.tup [.ty n, .ty m]) hp
  exact ⟨v, p, _, _, _, b, rfl, upd_same, .cons (.ty n) (.cons (.ty m) .nil), tyX_of w c ((r1.mono f2.bn).mono f2.n2) h, q, k _ _ _ (f1.trans f2) rep_bl⟩
end

/-! ### defs -/
/-- the def that stands at the module's name x, and what it promises -/
structure Fct (P : Program) (w : World) (K : PySem.W.Frag) (mg : Str → Option Value) (base : Heap) (k : Nat) (x : Str) (ps : List Str) (sp : Sp) : Prop where
  ex : ∃ f fd, FnOk P w K mg base CX0 k f fd ps sp ∧ mg x = some (.ref f) ∧ PySem.W.keepIn K (.ref f) = true ∧ Binds K fd ps []
/-- a method -/
structure Mtd (P : Program) (w : World) (K : PySem.W.Frag) (mg : Str → Option Value) (base : Heap) (k : Nat) (C : Addr) (m : Str) (ps : List Str) (sp : Sp) : Prop where
  ex : ∃ f fd, FnOk P w K mg base CX0 k f fd ps sp ∧ Meth K C m f ∧ Binds K fd ps []
section
variable {X : Cx} {k j : Nat} {x m : Str} {ps : List Str} {sp : Sp} {p pos apos : Pos} {e o : Expr} {es : List Expr} {t : TA} {ta : TE} {C : Addr}
theorem pe_f (F : Fct X.prog X.w X.K X.mg X.base k x ps sp) (hr : Room j X.A) (hk : k ≤ j) (ha : PA X (e :: es) t) (hg : Gl X x := by rfl)
    (hdb : (x == ("__debug__" : Str)) = false := by decide) (he : starEach (e :: es) X.env = (false, eval e X.env) :: starEach es X.env := by rfl) (hpl : (backTo pos (starEach es X.env)).any (·.1) = false := by rfl) : PE X (.Call (.Name x p) (e :: es) [] pos) (tCall sp [] E0 t) := by
  obtain ⟨f, fd, h1, h2, h3, h4⟩ := F.ex
  exact pe_call h1 (hr.mono hk) hg h2 h3 h4 .nil pass0 ha hdb he hpl
theorem pe_f0 (F : Fct X.prog X.w X.K X.mg X.base k x ps sp) (hr : Room j X.A) (hk : k ≤ j) (hg : Gl X x := by rfl) (hdb : (x == ("__debug__" : Str)) = false := by decide) : PE X (.Call (.Name x p) [] [] pos) (tCall sp [] E0 tNil) := by
  obtain ⟨f, fd, h1, h2, h3, h4⟩ := F.ex
  exact pe_call0 h1 (hr.mono hk) hg h2 h3 h4 .nil pass0 hdb
theorem pe_m {pl : Sem Bool} (F : Mtd X.prog X.w X.K X.mg X.base k C m ps sp) (cl : Cls X.K C) (hr : Room j X.A) (hk : k ≤ j) (ho : PE X o ta) (ha : PA X (e :: es) t)
    (hst : starEach (e :: es) X.env = (false, eval e X.env) :: starEach es X.env := by rfl) (hpl : (backTo pos (starEach es X.env)).any (·.1) = false := by rfl)
    (ht : eval (.Call (.Attribute o m apos) (e :: es) [] pos) X.env = (do
      let ov ← eval o X.env
      standAt apos.atName
      let (f, first) ← holding [ov] (getMethod ov m pl)
      callWith pos f first (backTo pos (starEach (e :: es) X.env)) (backToKw pos (keywordEach [] X.env))) := by rfl) : PE X (.Call (.Attribute o m apos) (e :: es) [] pos) (tMeth C m sp [] E0 ta t) := by
  obtain ⟨f, fd, h1, h2, h4⟩ := F.ex
  exact pe_meth ho cl h2 h1 (hr.mono hk) h4 .nil pass0 ha hst hpl ht
theorem pe_m0 {pl : Sem Bool} (F : Mtd X.prog X.w X.K X.mg X.base k C m ps sp) (cl : Cls X.K C) (hr : Room j X.A) (hk : k ≤ j) (ho : PE X o ta)
    (ht : eval (.Call (.Attribute o m apos) [] [] pos) X.env = (do
      let ov ← eval o X.env
      standAt apos.atName
      let (f, first) ← holding [ov] (getMethod ov m pl)
      callWith pos f first (backTo pos (starEach [] X.env)) (backToKw pos (keywordEach [] X.env))) := by rfl) : PE X (.Call (.Attribute o m apos) [] [] pos) (tMeth C m sp [] E0 ta tNil) := by
  obtain ⟨f, fd, h1, h2, h4⟩ := F.ex
  exact pe_meth0 ho cl h2 h1 (hr.mono hk) h4 .nil pass0 ht
end
theorem ss_start {K : PySem.W.Frag} {Hb H : Hp} {N : List Str} {vs : List V} {ds : List D} (s : Same Hb H) (r : RepL K Hb vs ds) : SS K H Hb H (L2.start N vs) (ds.map some ++ List.replicate (N.length - ds.length) none) none := by
  refine ⟨s, fun i d e => ?_, ?_, fun i ds e => by cases e⟩
  · by_cases hi : i < ds.length
    · rw [List.getElem?_append_left (by simpa using hi), List.getElem?_map] at e
      have hd : ds[i]? = some d := by
        cases q : ds[i]? with
        | none => rw [q] at e; cases e
        | some z => rw [q] at e; simpa using e
      obtain ⟨v, h1, h2⟩ := r.get hd
      refine ⟨v, ?_, h2⟩
      unfold L2.start
      rw [List.getElem?_append_left (by rw [List.length_map, r.len]; exact hi), List.getElem?_map, h1]
      rfl
    · rw [List.getElem?_append_right (by simpa using hi), List.getElem?_replicate] at e
      split at e
      · cases e
      · cases e
  · unfold L2.start
    simp only [List.length_append, List.length_map, List.length_replicate]
    rw [r.len]
/-- a def's body keeps its promise -/
theorem fn_D {α : Type} {P : Program} {w : World} {K : PySem.W.Frag} {mg : Str → Option Value} {base : Heap} {nm qual : Str} {pa : Arguments} {bd : List Stmt} {sc : Scope} {dvs : List V} {kws : List (Str × V)} {f : Addr} {fd : FuncData} {N ps : List Str} {k : Nat}
    {enc : α → List D} {pre : α → Prop} {g : α → D} (F : FunD K nm qual pa bd sc dvs kws f fd) (S : FnScope N ps sc) (hl : ∀ a, (enc a).length = ps.length)
    (body : ∀ (cdv : Value) (A : Around) (outer : List PySem.Env) (s : Shared) (H : Hp) (E : XK), Room k (A.deeper (envOfC qual sc s.heap.objs.size f cdv)) →
      ∃ t, PSs (cxOf CX0 P w K mg base N qual sc f cdv A outer s H E).nox bd t ∧ ∀ a, pre a → ES K t ((enc a).map some ++ List.replicate (N.length - (enc a).length) none) none (fun _ _ => g a = .non) (fun d => d = g a)) :
    FnOk P w K mg base CX0 (k + 1) f fd ps (spA K enc pre g) := by
  refine F.ok S (fun vs H Q E h => ?_) (fun cdv A outer s H vs Q E hr h => ?_)
  · obtain ⟨Hb, a, h1, h2, _⟩ := h
    rw [h2.len]
    exact hl a
  · obtain ⟨Hb, a, h1, h2, h3, h4⟩ := h
    obtain ⟨t, ht, hs⟩ := body cdv A outer s H E hr
    refine ⟨t, ht.nox, hs a h3 Hb H Hb H _ _ (.refl h1) (ss_start h1 h2) (fun δ' ow' Hb' H' σ' f' m s' n => ?_) fun v d Hn H' f' r' e => ?_⟩
    · exact h4 .non Hb' H' f' (by rw [n, Rep])
    · rw [e] at r'
      exact h4 v Hn H' f' r'
end KX
/-! More rules by data: walks over a list of data, loops as folds, own dicts, dicts of truth values, making of objects. -/
namespace KX
open PySem PySem.Spec PyProof.Rows L2
section
variable {K : PySem.W.Frag} {δ δ' : KX.Env} {ow ow' : Own} {ta tb te td ty tx tv : TE} {tt : TT} {tr : TA} {d : D} {ds : List D} {i j : Int} {b : Bool} {wi : TI} {g : TG} {n : Nat} {item item' : Nat → D}
/-! ### sources -/
def EIL (K : PySem.W.Frag) (wi : TI) (δ : KX.Env) (ow : Own) (xs : List D) : Prop := EI K wi δ ow xs.length (fun i => xs.getD i .non)
theorem Src.congr {J : It} {Hn : Hp} (s : Src K J n Hn item) (h : ∀ i, i < n → item i = item' i) : Src K J n Hn item' := by
  obtain ⟨G, Y, a, b, c⟩ := s.ex
  refine ⟨G, Y, a, b, fun i Hc Hx x Hy hi m1 m2 y => ?_⟩
  obtain ⟨Hm, f, r⟩ := c i Hc Hx x Hy hi m1 m2 y
  exact ⟨Hm, f, by rw [← h i hi]; exact r⟩
theorem EI.congr (s : EI K wi δ ow n item) (h : ∀ i, i < n → item i = item' i) : EI K wi δ ow n item' := fun H0 Hb H σ R hs k => s H0 Hb H σ R hs fun J Hn H2 f src => k J Hn H2 f (src.congr h)
theorem eil_list (h : ED K te δ ow (.lst ds)) : EIL K (iList K te) δ ow ds := ei_list h
theorem eil_tup (h : ED K te δ ow (.tup ds)) : EIL K (iTup K te) δ ow ds := ei_tup h
theorem eil_range (h : EA K tr δ ow [.int j]) (hj : -100000 ≤ j ∧ j ≤ 100000) : EIL K (iRng1 tr) δ ow ((List.range j.toNat).map fun i : Nat => D.int (i : Int)) := by
  unfold EIL
  rw [List.length_map, List.length_range]
  refine (ei_range h hj).congr fun i hi => ?_
  rw [List.getD_eq_getElem?_getD, List.getElem?_map, List.getElem?_range hi]
  rfl
theorem eil_enum (h : EA K tr δ ow [.lst ds]) : EIL K (iEnum K tr) δ ow (ds.zipIdx.map fun p => .tup [.int (p.2 : Int), p.1]) := by
  unfold EIL
  rw [List.length_map, List.length_zipIdx]
  refine (ei_enum h).congr fun i hi => ?_
  rw [List.getD_eq_getElem?_getD, List.getD_eq_getElem?_getD, List.getElem?_map, List.getElem?_zipIdx, List.getElem?_eq_getElem hi]
  simp
theorem eil_is {xs ys : List D} (h : EIL K wi δ ow xs) (e : xs = ys) : EIL K wi δ ow ys := e ▸ h
variable {N N' : KX.Env → Own → Prop} {R : D → Prop} {ts us ws : TS} {α β : Type}
/-- a loop as a fold -/
theorem es_forL (l : List α) (enc : α → D) (st : β → α → β) (b0 : β) (P : β → KX.Env → Own → Prop) (he : EIL K wi δ ow (l.map enc)) (h0 : P b0 δ ow)
    (hs : ∀ b a δ' ow', a ∈ l → P b δ' ow' → ∃ δ'', EG K g (enc a) δ' δ'' ow' ∧ ES K ts δ'' ow' (P (st b a)) R) (hd : ∀ δ' ow', P (l.foldl st b0) δ' ow' → N δ' ow') : ES K (tFor wi g ts) δ ow N R := by
  refine es_for he (fun i δ' ow' => P ((l.take i).foldl st b0) δ' ow') (by simpa using h0) (fun i δ' ow' hi p => ?_) (fun δ' ow' p => hd δ' ow' (by rw [List.length_map, List.take_length] at p; exact p))
  rw [List.length_map] at hi
  obtain ⟨δ'', h1, h2⟩ := hs _ l[i] δ' ow' (List.getElem_mem hi) p
  refine ⟨δ'', ?_, ?_⟩
  · rw [show (l.map enc).getD i .non = enc l[i] from by rw [List.getD_eq_getElem?_getD, List.getElem?_map, List.getElem?_eq_getElem hi]; rfl]
    exact h1
  · rw [List.take_succ, List.getElem?_eq_getElem hi]
    simp only [Option.toList_some, List.foldl_append, List.foldl_cons, List.foldl_nil]
    exact h2
theorem filt_ix (p : α → Bool) (h : α → D) (f : Nat → Bool) (v : Nat → D) : ∀ (l : List α) (m : Nat), (∀ i a, l[i]? = some a → f (m + i) = p a ∧ v (m + i) = h a) → ((List.range' m l.length).filter f).map v = (l.filter p).map h
  | [], m, _ => rfl
  | a :: l, m, q => by
    have h0 := q 0 a rfl
    rw [Nat.add_zero] at h0
    rw [List.length_cons, List.range'_succ, List.filter_cons, List.filter_cons, h0.1]
    have ih := filt_ix p h f v l (m + 1) fun i b hb => by
      have := q (i + 1) b (by simpa using hb)
      rw [show m + 1 + i = m + (i + 1) from by omega]
      exact this
    cases p a with
    | true => simp only [if_true, List.map_cons, h0.2, ih]
    | false => simpa using ih
/-- a comprehension over a list -/
theorem ed_lcL (l : List α) (enc : α → D) (p : α → Bool) (h : α → D) {vs : List Nat} (he : EIL K wi δ ow (l.map enc)) (hw : GW g vs) (ho : ∀ v ∈ vs, offO v ow = true) (hn : l.length ≤ 50000)
    (hs : ∀ a, a ∈ l → ∃ δ', EG K g (enc a) (wipeD δ vs) δ' ow ∧ ET K tt δ' ow (p a) ∧ (p a = true → ED K te δ' ow (h a))) : ED K (tLc wi g tt te vs) δ ow (.lst ((l.filter p).map h)) := by
  have key := ed_lc (K := K) (δ := δ) (ow := ow) (tt := tt) (te := te) (g := g) he hw ho (by rw [List.length_map]; exact hn) (fun i => (l[i]?.map p).getD false) (fun i => (l[i]?.map h).getD .non) fun i hi => by
    rw [List.length_map] at hi
    obtain ⟨δ', h1, h2, h3⟩ := hs l[i] (List.getElem_mem hi)
    refine ⟨δ', ?_, ?_, ?_⟩
    · rw [show (l.map enc).getD i .non = enc l[i] from by rw [List.getD_eq_getElem?_getD, List.getElem?_map, List.getElem?_eq_getElem hi]; rfl]
      exact h1
    · rw [show (l[i]?.map p).getD false = p l[i] from by rw [List.getElem?_eq_getElem hi]; rfl]
      exact h2
    · rw [show (l[i]?.map p).getD false = p l[i] from by rw [List.getElem?_eq_getElem hi]; rfl, show (l[i]?.map h).getD .non = h l[i] from by rw [List.getElem?_eq_getElem hi]; rfl]
      exact h3
  refine ed_is key ?_
  rw [List.length_map, List.range_eq_range']
  congr 1
  exact filt_ix p h _ _ l 0 fun i a ha => by
    rw [Nat.zero_add, ha]
    exact ⟨rfl, rfl⟩
theorem ed_lcA (l : List α) (enc : α → D) (h : α → D) {vs : List Nat} (he : EIL K wi δ ow (l.map enc)) (hw : GW g vs) (ho : ∀ v ∈ vs, offO v ow = true) (hn : l.length ≤ 50000)
    (hs : ∀ a, a ∈ l → ∃ δ', EG K g (enc a) (wipeD δ vs) δ' ow ∧ ED K te δ' ow (h a)) : ED K (tLc wi g tYes te vs) δ ow (.lst (l.map h)) := by
  have := ed_lcL (K := K) (δ := δ) (ow := ow) (tt := tYes) (te := te) l enc (fun _ => true) h he hw ho hn fun a ha => by
    obtain ⟨δ', h1, h2⟩ := hs a ha
    exact ⟨δ', h1, et_yes, fun _ => h2⟩
  rw [List.filter_eq_self.mpr (fun _ _ => rfl)] at this
  exact this

/-! ### own dicts -/
theorem inl_eq {a b : Int} : decide ((Sum.inl a : Key) = Sum.inl b) = decide (a = b) := by
  by_cases h : a = b
  · rw [h]; simp
  · rw [decide_eq_false h, decide_eq_false (fun z => h (Sum.inl.inj z))]
theorem putK_enc (kvs : List (Int × Int)) (k v : Int) : putK (encK kvs) (.inl k) (.int v) = encK (putZ kvs k v) := by
  unfold putK putZ encK
  have e : ((kvs.map fun p => ((Sum.inl p.1 : Key), V.int p.2)).any fun kv => decide (kv.1 = .inl k)) = kvs.any fun p => decide (p.1 = k) := by
    rw [List.any_map]
    congr 1
    funext p
    exact inl_eq
  rw [e]
  split
  · rw [List.map_map, List.map_map]
    apply List.map_congr_left
    intro p _
    show (if (Sum.inl p.1 : Key) = .inl k then _ else _) = _
    by_cases h : p.1 = k
    · simp [h]
    · simp [h]
  · rw [List.map_append]
    rfl
theorem valV_enc (k : Int) : ∀ kvs : List (Int × Int), valV (encK kvs) (.inl k) = (getZ kvs k).map V.int
  | [] => rfl
  | p :: kvs => by
    have ih := valV_enc k kvs
    unfold valV getZ encK at ih ⊢
    rw [List.map_cons, List.find?_cons, List.find?_cons, inl_eq]
    cases decide (p.1 = k) with
    | true => rfl
    | false => exact ih
theorem SS.ownD {H0 Hb H : Hp} {σ : L2.St} {n : Nat} {kvs : List (Int × Int)} (s : SS K H0 Hb H σ δ (some (n, .d kvs))) : δ[n]? = some none ∧ ∃ l, σ[n]? = some (some (.ref l)) ∧ H0 l = none ∧ Hb l = none ∧ H l = some (.dK (encK kvs)) := by
  obtain ⟨hd, l, h1, h2, h3, h4⟩ := s.own n _ rfl
  exact ⟨hd, l, h1, h2, h3, h4⟩
theorem own_updD {H0 Hb H : Hp} {σ : L2.St} {n : Nat} {c : OV} {kvs : List (Int × Int)} {l : Addr} {Hb0 : Hp} (fx : Fx Hb0 H0 Hb H) (s : SS K H0 Hb H σ δ (some (n, c))) (h1 : σ[n]? = some (some (.ref l))) (h2 : H0 l = none) (h3 : Hb l = none) :
    Fx Hb0 H0 Hb (upd H l (.dK (encK kvs))) ∧ SS K H0 Hb (upd H l (.dK (encK kvs))) σ δ (some (n, .d kvs)) := by
  have q : ∀ {G : Hp}, Same G H → G l = none → Same G (upd H l (.dK (encK kvs))) := fun a g b x e => by
    rw [upd_ne (ne_of_none e g)]
    exact a b x e
  refine ⟨⟨fx.bn, q s.sm h3, q fx.s h2, fx.df⟩, q s.sm h3, s.rep, s.len, fun i ds' e => ?_⟩
  cases e
  exact ⟨(s.own n _ rfl).1, l, h1, h2, h3, upd_same⟩
/-- x = {}: a dict of one's own -/
theorem es_ownD {n : Nat} (hn : n < δ.length) (h : N (δ.set n none) (some (n, .d []))) : ES K (tAsg tDNewK (gName n)) δ none N R := fun Hb0 H0 Hb H σ En fx s kn kr => by
  intro p hp
  have hb : Hb p = none := s.sm.free hp
  have h0 : H0 p = none := fx.s.free hp
  refine kn _ _ Hb _ _ ⟨fx.bn, fx.n2.trans (same_new hp), fx.s.trans (same_new hp), fx.df⟩ (Same.refl _) ?_ h
  refine ⟨s.sm.trans (same_new hp), fun i d e => ?_, by rw [List.length_set, List.length_set, s.len], fun i ds e => ?_⟩
  · by_cases q : n = i
    · subst q
      rw [List.getElem?_set_self hn] at e
      cases e
    · rw [List.getElem?_set_ne q] at e ⊢
      exact s.rep i d e
  · cases e
    exact ⟨by rw [List.getElem?_set_self hn], p, by rw [List.getElem?_set_self (by rw [← s.len]; exact hn)], h0, hb, upd_same⟩
theorem rd_own {H : Hp} {l : Addr} {kvs : List (Int × Int)} (h : H l = some (.dK (encK kvs))) (k : Int) : DGet H l (.int k) ((getZ kvs k).map V.int) := by
  rw [← valV_enc]
  exact DGet.k (k := Sum.inl k) h
/-- d.get(k, z), d[k] of the own dict -/
theorem ed_getO {n : Nat} {kvs : List (Int × Int)} (hk : ED K ty δ (some (n, .d kvs)) (.int i)) (hz : ED K tx δ (some (n, .d kvs)) (.int j)) : ED K (tDGet2 (tVar n) ty tx) δ (some (n, .d kvs)) (.int ((getZ kvs i).getD j)) := fun H0 Hb H σ Q s k => by
  obtain ⟨hd, l, h1, h2, h3, h4⟩ := s.ownD
  refine ⟨_, h1, l, rfl, .inl ⟨_, .of h4⟩, ?_⟩
  refine hk H0 Hb H σ _ s fun v Hn H2 f1 r1 => ?_
  refine hz H0 Hn H2 σ _ (s.fx f1) fun w Hm H3 f2 r2 => ?_
  rw [Rep] at r1
  rw [Rep] at r2
  subst r1 r2
  refine ⟨_, rd_own ((f1.trans f2).s _ _ h4) i, ?_⟩
  have e : ((getZ kvs i).map V.int).getD (.int j) = .int ((getZ kvs i).getD j) := by cases getZ kvs i <;> rfl
  rw [e]
  exact k _ Hm H3 (f1.trans f2) rep_int
theorem ed_dgetO {n : Nat} {kvs : List (Int × Int)} (hk : ED K ty δ (some (n, .d kvs)) (.int i)) (h : getZ kvs i = some j) : ED K (tDGet (tVar n) ty) δ (some (n, .d kvs)) (.int j) := fun H0 Hb H σ Q s k => by
  obtain ⟨hd, l, h1, h2, h3, h4⟩ := s.ownD
  refine ⟨_, h1, ?_⟩
  refine hk H0 Hb H σ _ s fun v Hn H2 f1 r1 => ?_
  rw [Rep] at r1
  subst r1
  have q := rd_own (f1.s _ _ h4) i
  rw [h] at q
  exact ⟨l, _, rfl, q, k _ Hn H2 f1 rep_int⟩
/-- d[k] = v of the own dict -/
theorem es_dput {n : Nat} {kvs : List (Int × Int)} (hv : ED K tv δ (some (n, .d kvs)) (.int j)) (hk : ED K ty δ (some (n, .d kvs)) (.int i)) (hl : kvs.length < 100000) (h : N δ (some (n, .d (putZ kvs i j)))) : ES K (sDPut (tVar n) ty tv) δ (some (n, .d kvs)) N R := fun Hb0 H0 Hb H σ En fx s kn kr => by
  refine hv H0 Hb H σ _ s fun v Hn H2 f1 r1 => ?_
  have s2 := s.fx f1
  obtain ⟨hd, l, h1, h2, h3, h4⟩ := s2.ownD
  refine ⟨_, h1, ?_⟩
  refine hk H0 Hn H2 σ _ s2 fun w Hm H3 f2 r2 => ?_
  rw [Rep] at r1
  rw [Rep] at r2
  subst r1 r2
  have g3 : Hm l = none := f2.df l h3 (by rw [h4]; intro z; cases z)
  have g4 := f2.s _ _ h4
  obtain ⟨a1, a2⟩ := own_updD (kvs := putZ kvs i j) ((fx.trans f1).trans f2) (s2.fx f2) h1 h2 g3
  refine ⟨l, _, rfl, DPut.k (k := Sum.inl i) g4 (size_lt (by show (encK kvs).length < _; unfold encK; rw [List.length_map]; exact hl)), ?_⟩
  rw [putK_enc]
  exact kn _ _ _ _ _ a1 (f1.bn.trans f2.bn) a2 h
/-- [int(k) for k in d] of the own dict -/
theorem ed_keysO {n m : Nat} {kvs : List (Int × Int)} (hm : m < δ.length) (hnm : n ≠ m) (hl : kvs.length ≤ 50000) : ED K (tLockE (tLc (iKeys (tVar n)) (gName m) tYes (tCB rInt1 (tCons (tVar m) tNil)) [m])) δ (some (n, .d kvs)) (.lst (kvs.map fun p => .int p.1)) := fun H0 Hb H σ Q s k => by
  obtain ⟨hd, l, h1, h2, h3, h4⟩ := s.ownD
  have hm' : m < σ.length := by rw [← s.len]; exact hm
  refine ⟨l, _, h4, (by show True; trivial), fun od => ?_⟩
  refine ⟨_, h1, l, od, rfl, .inl ⟨_, upd_same, fun D0 hD => ?_⟩⟩
  have hDl : D0 ≠ l := fun z => by rw [z, upd_same] at hD; cases hD
  have hD2 : H D0 = none := by rw [upd_ne hDl] at hD; exact hD
  have enc_len : (encK kvs).length = kvs.length := List.length_map ..
  refine lc_it walk_keys (fun i H' => H' = upd (upd H l (.frz od (.dK (encK kvs)))) D0 (.lst ((kvs.take i).map fun p => .int p.1))) rfl (fun i H' _ e => by rw [e, upd_ne hDl.symm, upd_same]) (fun i x Hx Hy hi p y => ?_) (fun H' p => ?_)
  · obtain ⟨rfl, kk, vv, y1, rfl⟩ := y
    rw [enc_len] at hi
    have hk : (encK kvs)[i]? = some (.inl kvs[i].1, .int kvs[i].2) := by unfold encK; rw [List.getElem?_map, List.getElem?_eq_getElem hi]; rfl
    rw [hk] at y1
    cases y1
    refine ⟨wipe_ext (by rw [List.length_set, wipe_length]) fun j hj => by rw [List.getElem?_set_ne (fun e => hj (by rw [← e]; simp)), wipe_out hj], ?_⟩
    unfold tYes
    refine (show ∀ (A B : Prop), A → (if true = true then A else B) from fun A B h => by rw [if_pos rfl]; exact h) _ _ ?_
    refine ⟨_, List.getElem?_set_self (by rw [wipe_length]; exact hm'), .inl ⟨_, rfl, _, by rw [p, upd_same], size_lt (by simp; omega), ?_⟩⟩
    rw [p, upd_upd, List.take_succ, List.getElem?_eq_getElem hi, List.map_append]
    rfl
  · subst p
    rw [enc_len, List.take_length]
    refine ⟨by rw [upd_ne hDl.symm, upd_same], ?_⟩
    have e : upd (upd (upd H l (.frz od (.dK (encK kvs)))) D0 (.lst (kvs.map fun p => .int p.1))) l (.dK (encK kvs)) = upd H D0 (.lst (kvs.map fun p => .int p.1)) := by
      funext b
      by_cases q1 : b = l
      · rw [q1, upd_same, upd_ne hDl.symm, h4]
      · rw [upd_ne q1]
        by_cases q2 : b = D0
        · rw [q2, upd_same, upd_same]
        · rw [upd_ne q2, upd_ne q1, upd_ne q2]
    rw [e]
    have f := Fx.new s.sm (.lst (kvs.map fun p => V.int p.1)) hD2
    refine k _ _ _ f (rep_lst upd_same ?_)
    have := repl_of_int (K := K) (H := upd Hb D0 (.lst (kvs.map fun p => V.int p.1))) (kvs.map (·.1))
    rw [List.map_map, List.map_map] at this
    exact this

/-! ### dicts of truth values by texts -/
def EPs (K : PySem.W.Frag) (trs : List (TE × TE)) (δ : KX.Env) (ow : Own) (kvs : List (Str × Bool)) : Prop := ∀ (H0 Hb H : Hp) (σ : L2.St) (Q : List (V × V) → Hp → Prop), SS K H0 Hb H σ δ ow → (∀ Hn H2, Fx Hb H Hn H2 → Q (kvs.map fun p => (.str p.1, .bl p.2)) H2) → tPairs trs σ H Q
theorem eps_nil : EPs K [] δ ow [] := fun H0 Hb H σ Q s k => k Hb H (.refl s.sm)
theorem eps_cons {trs : List (TE × TE)} {x : Str} {kvs : List (Str × Bool)} (hk : ED K ta δ ow (.str x)) (hv : ED K tb δ ow (.bl b)) (hr : EPs K trs δ ow kvs) : EPs K ((ta, tb) :: trs) δ ow ((x, b) :: kvs) := fun H0 Hb H σ Q s k => by
  refine hk H0 Hb H σ _ s fun v Hn H2 f1 r1 => ?_
  refine hv H0 Hn H2 σ _ (s.fx f1) fun w Hm H3 f2 r2 => ?_
  refine hr H0 Hm H3 σ _ ((s.fx f1).fx f2) fun Hk H4 f3 => ?_
  rw [Rep] at r1
  rw [Rep] at r2
  subst r1 r2
  exact k Hk H4 ((f1.trans f2).trans f3)
theorem ed_disp {trs : List (TE × TE)} {kvs : List (Str × Bool)} (h : EPs K trs δ ow kvs) (hl : kvs.length ≤ 15) (hm : mergeK [] (encS kvs) = encS kvs) : ED K (tDisp trs) δ ow (.sd kvs) := fun H0 Hb H σ Q s k => by
  intro p hp
  have hb := s.sm.free hp
  have s1 : SS K H0 Hb (upd H p (.dK [])) σ δ ow := by
    refine ⟨s.sm.trans (same_new hp), s.rep, s.len, fun i c e => ?_⟩
    obtain ⟨hd, l, h1, h2, h3, h4⟩ := s.own i c e
    exact ⟨hd, l, h1, h2, h3, OV.fx h4 (Same.refl _) (same_new hp)⟩
  refine h H0 Hb _ σ _ s1 fun Hn H2 f => ?_
  have g1 : H2 p = some (.dK []) := f.s _ _ upd_same
  have g2 : Hn p = none := f.df p hb (by rw [upd_same]; intro z; cases z)
  refine ⟨g1, encS kvs, ?_, by unfold encS; rw [List.length_map]; exact hl, ?_⟩
  · unfold encS
    rw [List.map_map]
    rfl
  · rw [hm]
    refine k (.ref p) (upd Hn p (.dK (encS kvs))) _ ⟨f.bn.trans (same_new g2), fun c x e => ?_, fun c x e => ?_, fun c e1 e2 => ?_⟩ (by rw [Rep]; exact ⟨p, rfl, upd_same⟩)
    · by_cases q : c = p
      · subst q
        rw [upd_same] at e ⊢
        exact e
      · rw [upd_ne q] at e ⊢
        exact f.n2 c x e
    · rw [upd_ne (ne_of_none e hp)]
      exact f.s c x (same_new hp c x e)
    · have q : c ≠ p := fun q => e2 (by rw [q]; exact hp)
      rw [upd_ne q]
      exact f.df c e1 (by rw [upd_ne q]; exact e2)
theorem ed_sdget {kvs : List (Str × Bool)} {x : Str} (hd : ED K td δ ow (.sd kvs)) (hk : ED K ty δ ow (.str x)) (h : valV (encS kvs) (.inr x) = some (.bl b)) : ED K (tDGet td ty) δ ow (.bl b) := fun H0 Hb H σ Q s k => by
  refine hd H0 Hb H σ _ s fun v Hn H2 f1 r1 => ?_
  refine hk H0 Hn H2 σ _ (s.fx f1) fun w Hm H3 f2 r2 => ?_
  rw [Rep] at r1
  rw [Rep] at r2
  obtain ⟨a, e1, e2⟩ := r1
  subst e1 r2
  have g : H3 a = some (.dK (encS kvs)) := f2.s _ _ (f1.n2 _ _ e2)
  have q := DGet.k (k := Sum.inr x) g
  rw [h] at q
  exact ⟨a, _, rfl, q, k _ Hm H3 (f1.trans f2) rep_bl⟩
end
end KX
/-! Rules that the layer lacks: fields as targets, == and != and in of Worths, tuples of them, the sign. -/
namespace KX
open PySem PySem.Spec PyProof.Rows L2

section
variable {X : Cx}
/-- o.f as a target -/
def gFld (K : PySem.W.Frag) (to : TE) (f : Str) : TG := fun v σ H Q => to σ H fun x H2 => ∃ a C dx fs, x = .ref a ∧ H2 a = some (.ins C dx fs) ∧ Cls K C ∧ NoAttr K C f ∧ fs.length < 1000 ∧ Q σ (upd H2 a (.ins C dx (putF f v fs)))
theorem pg_fld {o : Expr} {to : TE} {f : Str} {pos : Pos} (ho : PE X o to)
    (ha : ∀ v, assign (.Attribute o f pos) X.env v = (do
      let ov ← holding [v] (eval o X.env)
      standAt pos.atName
      holding [v, ov] (setAttr ov f v)
      release [v, ov] []) := by intro _; rfl) : PG X (.Attribute o f pos) (gFld X.K to f) := by
  refine ⟨fun pins s σ H v u Q I r h => ?_⟩
  rw [ha]
  refine wpAny_bind (wpAny_holding (thn (ho.run pins s σ H _ I h) fun ov s1 ⟨x, H1, I1, r1, a, C, dx, fs, ex, ea, c, n, l, q⟩ => ?_))
  subst ex
  obtain rfl : ov = Value.ref a := r1
  refine wpAny_bind (wpAny_standAt (wpAny_bind (wpAny_holding (setattr_ok I1 ea c n l r fun s3 I3 => ?_))))
  exact wpAny_release ⟨σ, _, I3, q⟩
end

/-! ### one Worth and another -/
theorem wt_inj {n m : Int} (h : wFs n = wFs m) : n = m := by
  have h1 : V.int (wu n) = V.int (wu m) := by
    have := congrArg List.head? h
    simpa using this
  have h2 : V.int (wsc n) = V.int (wsc m) := by
    have := congrArg (fun l => l[1]?) h
    simpa using this
  have h1 : wu n = wu m := V.int.inj h1
  have h2 : wsc n = wsc m := V.int.inj h2
  unfold wu at h1
  unfold wsc at h2
  split at h1 <;> split at h1 <;> simp_all <;> omega
def encEq (p : Int × Int) : List D := [.wt p.1, .wt p.2]
def gEq (p : Int × Int) : D := .bl (decide (p.1 = p.2))
abbrev spEqW (K : PySem.W.Frag) : Sp := spA K encEq (fun _ => True) gEq
section
variable {X : Cx} {k : Nat} {A : Around} {pins : List (Addr × Obj)} {s : Shared} {σ : L2.St} {Hb H : Hp} {x y : V} {u v : Value} {n m : Int}
/-- what stands behind: the data as they were, more made -/
def Beh (X : Cx) (pins : List (Addr × Obj)) (σ : L2.St) (Hb H : Hp) (s' : Shared) : Prop := ∃ Hn H', Inv X pins σ H' s' ∧ Fx Hb H Hn H'
/-- the same place seen from a stack that is A -/
abbrev atA (X : Cx) (A : Around) : Cx := { X with A := A, calm := false }
theorem seenA (sb : Sub X k A) (I : Inv X pins σ H s) : Inv (atA X A) pins σ H s :=
  { I with ok := { I.ok with hd := nofun, frames := sb.fr.trans I.ok.frames } }
theorem call_eqW (F : Mtd X.prog X.w X.K X.mg X.base k (cW X.K) "__eq__" ["self", "other"] (spEqW X.K)) (sb : Sub X k A) (I : Inv X pins σ H s) (sm : Same Hb H) {a b : Addr} (r1 : Rep X.K Hb (.ref a) (.wt n)) (r2 : Rep X.K Hb (.ref b) (.wt m)) :
    ∃ f, PySem.W.findIn X.K (.ref (cW X.K)) "__eq__" = some (some (.ref f)) ∧ PySem.W.isFn X.K (.ref f) = true ∧
      wpAny (model X.prog X.w) A (call (.ref f) [.ref a, .ref b]) (fun z s' => z = .bool (decide (n = m)) ∧ Beh X pins σ Hb H s') X.xe s := by
  obtain ⟨f, fd, F1, hm, hb⟩ := F.ex
  have run := run_fn (X := atA X A) (Q := fun v H' => v = .bl (decide (n = m)) ∧ ∃ Hn, Fx Hb H Hn H') (vs := [.ref a, .ref b]) (us := [.ref a, .ref b]) F1 sb.room hb .nil pass0 (seenA sb I) (.cons rfl (.cons rfl .nil))
    ⟨Hb, (n, m), sm, .cons r1 (.cons r2 .nil), trivial, fun v Hn H2 f r => by rw [gEq, Rep] at r; exact ⟨r, Hn, f⟩⟩
  refine ⟨f, hm.at_, hm.fn, thn run fun z s' q => ?_⟩
  obtain ⟨_, H', I', rz, rfl, Hn, fx⟩ := q
  exact ⟨rz, Hn, H', { I' with ok := I.ok }, fx⟩
/-- its instance, for the library's rules -/
theorem instW (I : Inv X pins σ H s) (sm : Same Hb H) {a : Addr} (r1 : Rep X.K Hb (.ref a) (.wt n)) : ∃ ox od, PySem.W.InstAt s.heap a ox (cW X.K) od := by
  rw [Rep] at r1
  obtain ⟨a', dx, e1, e2⟩ := r1
  cases e1
  obtain ⟨mA, J, _⟩ := ins_get I.hok (sm _ _ e2)
  obtain ⟨od, J, _⟩ := J.look
  exact ⟨_, _, J⟩
theorem refW {K : PySem.W.Frag} {v : V} (r : Rep K Hb v (.wt n)) : ∃ a, v = .ref a := by
  rw [Rep] at r
  obtain ⟨a, dx, e1, _⟩ := r
  exact ⟨a, e1⟩
theorem rc_eqW (F : Mtd X.prog X.w X.K X.mg X.base k (cW X.K) "__eq__" ["self", "other"] (spEqW X.K)) (sb : Sub X k A) (I : Inv X pins σ H s) (sm : Same Hb H) (r1 : Rep X.K Hb x (.wt n)) (r2 : Rep X.K Hb y (.wt m)) (ru : RelV x u) (rv : RelV y v) :
    wpAny (model X.prog X.w) A (richCompare .Eq u v) (fun z s' => z = .bool (decide (n = m)) ∧ Beh X pins σ Hb H s') X.xe s := by
  obtain ⟨a, rfl⟩ := refW r1
  obtain ⟨b, rfl⟩ := refW r2
  cases ru
  cases rv
  obtain ⟨ox, od, J⟩ := instW I sm r1
  obtain ⟨oy, od', J'⟩ := instW I sm r2
  obtain ⟨mm, hF⟩ := I.fr
  obtain ⟨f, h1, h2, h3⟩ := call_eqW F sb I sm r1 r2
  refine PySem.W.cmp_K (op := .Eq) (tb := .ref (cW X.K)) sb.room.units0 hF I.ok.mod.kin J J'.type (by simp [PySem.W.notFirst]) h1 h2 ?_
  refine wpAny_mono h3 (fun z s' q => ?_) fun _ _ e => e
  obtain ⟨rfl, q⟩ := q
  exact ⟨rfl, q⟩
/-- == within a built-in -/
theorem eqb_W (F : Mtd X.prog X.w X.K X.mg X.base k (cW X.K) "__eq__" ["self", "other"] (spEqW X.K)) (sb : Sub X k A) (I : Inv X pins σ H s) (sm : Same Hb H) (r1 : Rep X.K Hb x (.wt n)) (r2 : Rep X.K Hb y (.wt m)) (ru : RelV x u) (rv : RelV y v) :
    wpAny (model X.prog X.w) A (eqBool u v) (fun z s' => z = decide (n = m) ∧ Beh X pins σ Hb H s') X.xe s := by
  obtain ⟨a, rfl⟩ := refW r1
  obtain ⟨b, rfl⟩ := refW r2
  cases ru
  cases rv
  by_cases hab : a = b
  · subst hab
    have e : n = m := by
      rw [Rep] at r1
      rw [Rep] at r2
      obtain ⟨a1, dx, e1, e2⟩ := r1
      obtain ⟨a2, dy, e3, e4⟩ := r2
      cases e1
      cases e3
      rw [e2] at e4
      injection e4 with e5
      injection e5 with _ _ e6
      exact wt_inj e6
    rw [decide_eq_true e]
    exact SeqAt.EqAt.same (A := A) (s := s) (.ref a) X.prog X.w X.xe _ ⟨rfl, Hb, H, I, .refl sm⟩
  · refine GQ.eqBool_refG hab (wpAny_mono (rc_eqW F sb I sm r1 r2 rfl rfl) (fun r s' q => ?_) fun _ _ z => z)
    obtain ⟨h1, q⟩ := q
    exact ⟨_, h1, rfl, q⟩
/-- == as a rule on values -/
def rEqWt (K : PySem.W.Frag) : R2 := fun x y H Q => ∃ Hb n m, Same Hb H ∧ Rep K Hb x (.wt n) ∧ Rep K Hb y (.wt m) ∧ ∀ Hn H2, Fx Hb H Hn H2 → Q (.bl (decide (n = m))) H2
theorem op_eqW {j : Nat} (F : Mtd X.prog X.w X.K X.mg X.base k (cW X.K) "__eq__" ["self", "other"] (spEqW X.K)) (hr : Room j X.A) (hk : k ≤ j) : OpR X (compareOp .Eq) (rEqWt X.K) := by
  intro pins s σ H x y v u Q I rx ry h
  obtain ⟨Hb, n, m, h1, h2, h3, q⟩ := h
  show wpAny (model X.prog X.w) X.A (richCompare .Eq v u) (EP X pins σ Q) X.xe s
  refine wpAny_mono (rc_eqW F ⟨hr.mono hk, rfl⟩ I h1 h2 h3 rx ry) (fun z s' hz => ?_) fun _ _ e => e
  obtain ⟨rfl, Hn, H', I', f⟩ := hz
  exact ⟨.bl _, H', I', rfl, q Hn H' f⟩
/-! ### != -/
/-- an instance whose class leaves __ne__ to object: the special that is bound -/
theorem ne_bound {M : Model} {E : Value → Shared → Prop} {K : PySem.W.Frag} {a C : Addr} {ox : Obj} {od : Option Obj} {Q : Option (Value × List Value) → Shared → Prop} (kin : K.In s.heap) (at_ : PySem.W.InstAt s.heap a ox C od)
    (left : PySem.W.findIn K (.ref C) "__ne__" = some (some (.builtin "object.__ne__"))) (q : Q (some (.builtin "object.__ne__", [.ref a])) s) : wpAny M A (bindSpecialIfBound? (.ref a) "__ne__") Q E s := by
  have found : wpAny M A (specialOf (.ref a) "__ne__") (fun r s' => r = some (.builtin "object.__ne__") ∧ s' = s) E s := wpAny_bind (at_.type.here ((PySem.W.looks_findIn kin left).here ⟨rfl, rfl⟩))
  have own := PySem.F.slot_object_ne.bind (.ref a)
  unfold bindSpecialIfBound?
  refine wpAny_bind (thn found ?_)
  rintro _ _ ⟨rfl, rfl⟩
  simp only [own]
  refine wpAny_bind (wpAny_askSetting (wpAny_ite ?_))
  split
  · exact wpAny_bind (wpAny_pure (wpAny_pure q))
  · exact wpAny_tryCatch (wpAny_bind (wpAny_pure (wpAny_pure q)))
/-- and what a try at != comes to -/
theorem try_ne {M : Model} {E : Value → Shared → Prop} {K : PySem.W.Frag} {a C : Addr} {ox : Obj} {od : Option Obj} {other : Value} {Q : Option Value → Shared → Prop} (kin : K.In s.heap) (at_ : PySem.W.InstAt s.heap a ox C od)
    (left : PySem.W.findIn K (.ref C) "__ne__" = some (some (.builtin "object.__ne__"))) (h : wpAny M A (call (.builtin "object.__ne__") [.ref a, other]) (fun z s' => ∃ c, z = .bool c ∧ Q (some (.bool c)) s') E s) : wpAny M A (tryCompare (.ref a) "__ne__" other) Q E s := by
  unfold tryCompare callSpecialIfBound?
  refine wpAny_bind (wpAny_holding (wpAny_bind (ne_bound kin at_ left (wpAny_bind (thn h fun z s' y => ?_)))))
  obtain ⟨c, rfl, y⟩ := y
  exact wpAny_pure (wpAny_pure y)
theorem rc_neW (F : Mtd X.prog X.w X.K X.mg X.base k (cW X.K) "__eq__" ["self", "other"] (spEqW X.K)) (hne : PySem.W.findIn X.K (.ref (cW X.K)) "__ne__" = some (some (.builtin "object.__ne__"))) (ho : PySem.W.mroIn X.K (cW X.K) (.type "object") = some true)
    (sb : Sub X (k + 1) A) (I : Inv X pins σ H s) (sm : Same Hb H) (r1 : Rep X.K Hb x (.wt n)) (r2 : Rep X.K Hb y (.wt m)) (ru : RelV x u) (rv : RelV y v) :
    wpAny (model X.prog X.w) A (richCompare .NotEq u v) (fun z s' => z = .bool (!decide (n = m)) ∧ Beh X pins σ Hb H s') X.xe s := by
  obtain ⟨a, rfl⟩ := refW r1
  obtain ⟨b, rfl⟩ := refW r2
  cases ru
  cases rv
  obtain ⟨ox, od, J⟩ := instW I sm r1
  obtain ⟨oy, od', J'⟩ := instW I sm r2
  obtain ⟨f, h1, h2, h3⟩ := call_eqW F sb.in1 I sm r1 r2
  have hu1 : A.in1.units < cLine := sb.in1.room.units0
  have one : wpAny (model X.prog X.w) A (call (.builtin "object.__ne__") [.ref a, .ref b]) (fun z s' => z = .bool (!decide (n = m)) ∧ Beh X pins σ Hb H s') X.xe s := by
    refine wpAny_call (codeAny_call_builtin PySem.F.slot_object_ne.plain PySem.F.entry_object_ne (PySem.W.check_slot PySem.F.cmpKind_ne PySem.F.cmpSplit_ne (J.type.andThen (PySem.W.looks_mroIn I.kIn ho)) (PySem.F.cmpArgs_ne _ _) ?_))
    unfold Builtin.«object.__ne__»
    refine wpAny_bind (m := slotArgs "__ne__" 1 _) (wpAny_pure ?_)
    refine wpAny_bind (m := cRoomFor _ _) (wpAny_cRoomFor hu1 ?_)
    refine wpAny_bind (m := callSpecialIfBound? (.ref a) (Str.ofString "__eq__") _) (PySem.W.ifBound_K I.kIn J h1 h2 (wpAny_mono h3 (fun r s' hq => ?_) fun _ _ y => y))
    obtain ⟨rfl, hq⟩ := hq
    refine wpAny_bind (wpAny_truthy_bool (wpAny_pure ⟨rfl, hq⟩))
  unfold richCompare
  simp only [oneThing_ref]
  refine wpAny_holding (wpAny_bind (wpAny_cRoomFor sb.room.units0 ?_))
  refine wpAny_bind (J.type.here (wpAny_bind (J'.type.here ?_)))
  rw [show (Value.ref (cW X.K) != Value.ref (cW X.K)) = false from by simp]
  refine wpAny_bind (wpAny_pure ?_)
  simp only [Bool.false_eq_true, if_false]
  have two : wpAny (model X.prog X.w) A (tryCompare (.ref a) "__ne__" (.ref b)) (fun r s' => r = some (.bool (!decide (n = m))) ∧ Beh X pins σ Hb H s') X.xe s := by
    exact try_ne I.kIn J hne (thn one fun z s' q => ⟨_, q.1, rfl, q.2⟩)
  refine wpAny_bind (wpAny_mono two (fun r s' q => ?_) fun _ _ e => e)
  obtain ⟨rfl, q⟩ := q
  exact wpAny_pure ⟨rfl, q⟩
def rNeWt (K : PySem.W.Frag) : R2 := fun x y H Q => ∃ Hb n m, Same Hb H ∧ Rep K Hb x (.wt n) ∧ Rep K Hb y (.wt m) ∧ ∀ Hn H2, Fx Hb H Hn H2 → Q (.bl (!decide (n = m))) H2
theorem op_neW {j : Nat} (F : Mtd X.prog X.w X.K X.mg X.base k (cW X.K) "__eq__" ["self", "other"] (spEqW X.K)) (hne : PySem.W.findIn X.K (.ref (cW X.K)) "__ne__" = some (some (.builtin "object.__ne__"))) (ho : PySem.W.mroIn X.K (cW X.K) (.type "object") = some true)
    (hr : Room j X.A) (hk : k + 1 ≤ j) : OpR X (compareOp .NotEq) (rNeWt X.K) := by
  intro pins s σ H x y v u Q I rx ry h
  obtain ⟨Hb, n, m, h1, h2, h3, q⟩ := h
  show wpAny (model X.prog X.w) X.A (richCompare .NotEq v u) (EP X pins σ Q) X.xe s
  refine wpAny_mono (rc_neW F hne ho ⟨hr.mono hk, rfl⟩ I h1 h2 h3 rx ry) (fun z s' hz => ?_) fun _ _ e => e
  obtain ⟨rfl, Hn, H', I', f⟩ := hz
  exact ⟨.bl _, H', I', rfl, q Hn H' f⟩
/-! ### the sign -/
def encNeg (n : Int) : List D := [.wt n]
def gNeg (n : Int) : D := .wt (-n)
abbrev spNegW (K : PySem.W.Frag) : Sp := spA K encNeg (fun _ => True) gNeg
def rNegWt (K : PySem.W.Frag) : V → Hp → VK → Prop := fun x H Q => ∃ a dx fs, x = .ref a ∧ H a = some (.ins (cW K) dx fs) ∧ spNegW K [x] H Q E0
theorem un_negW {j : Nat} (F : Mtd X.prog X.w X.K X.mg X.base k (cW X.K) "__neg__" ["self"] (spNegW X.K)) (hr : Room j X.A) (hk : k ≤ j) : UnR X (unaryOp .USub) (rNegWt X.K) := by
  intro pins s σ H x v Q I rx h
  obtain ⟨a, dx, fs, rfl, ha, q⟩ := h
  cases rx
  obtain ⟨f, fd, F1, hm, hb⟩ := F.ex
  obtain ⟨mA, J, _⟩ := ins_get I.hok ha
  obtain ⟨od, J, _⟩ := J.look
  obtain ⟨mm, hF⟩ := I.fr
  refine PySem.W.ksp_neg hF I.ok.mod.kin J hm.at_ hm.fn ?_
  exact run_fn (us := [.ref a]) (vs := [.ref a]) F1 (hr.mono hk) hb .nil pass0 I (.cons rfl .nil) q
end
end KX
/-! Making Worths and Deals; assignments to several names with a list of one's own among the values. -/
namespace KX
open PySem PySem.Spec PyProof.Rows L2
/-- what Worth.__init__ promises -/
def spWI (K : PySem.W.Frag) : Sp := fun vs H Q _ => ∃ x u s dx Hb, vs = [.ref x, .int u, .int s] ∧ Hb x = none ∧ Same Hb H ∧ H x = some (.ins (cW K) dx []) ∧ (s = 0 ∨ s = 1) ∧
  ∀ Hn H2, Fx Hb H Hn H2 → Q .non (upd H2 x (.ins (cW K) dx (wFs (tn u s))))
/-- what Deal.__init__ promises -/
def spDI (K : PySem.W.Frag) : Sp := fun vs H Q _ => ∃ x b P a dx Hb, vs = [.ref x, .int b, .int P, .int a] ∧ Hb x = none ∧ Same Hb H ∧ H x = some (.ins (cD K) dx []) ∧ (0 < b ∧ 0 < P ∧ b.natAbs < 2 ^ 400 ∧ P.natAbs < 2 ^ 400) ∧
  ∀ Hn H2, Fx Hb H Hn H2 → Q .non (upd H2 x (.ins (cD K) dx (dFs (mkb b P) P (a % (mkb b P * P)))))
section
variable {K : PySem.W.Frag} {δ : KX.Env} {ow : Own} {ta : TA}
theorem made_fx {C : Addr} {Hb H1 : Hp} {x dx : Addr} {fs : List (Str × V)} (s : Same Hb H1) (hx : H1 x = none) (hdx : H1 dx = none) (hne : dx ≠ x) :
    Same Hb (upd (upd H1 dx (.own x)) x (.ins C dx [])) ∧ Hb x = none ∧ ∀ Hn H2, Fx Hb (upd (upd H1 dx (.own x)) x (.ins C dx [])) Hn H2 → Fx Hb H1 (upd Hn x (.ins C dx fs)) (upd H2 x (.ins C dx fs)) := by
  have hbx : Hb x = none := s.free hx
  have keep : Same H1 (upd (upd H1 dx (.own x)) x (.ins C dx [])) := fun b o e => by
    rw [upd_ne (ne_of_none e hx), upd_ne (ne_of_none e hdx)]
    exact e
  refine ⟨s.trans keep, hbx, fun Hn H2 f => ?_⟩
  have hnx : Hn x = none := f.df x hbx (by rw [upd_same]; intro z; cases z)
  refine ⟨f.bn.trans (same_new hnx), fun b o e => ?_, fun b o e => ?_, fun b e1 e2 => ?_⟩
  · by_cases q : b = x
    · subst q
      rw [upd_same] at e ⊢
      exact e
    · rw [upd_ne q] at e ⊢
      exact f.n2 b o e
  · rw [upd_ne (ne_of_none e hx)]
    exact f.s b o (keep b o e)
  · have q : b ≠ x := fun q => e2 (by rw [q]; exact hx)
    rw [upd_ne q]
    refine f.df b e1 fun z => e2 ?_
    rw [upd_ne q] at z
    by_cases q2 : b = dx
    · rw [q2]; exact hdx
    · rw [upd_ne q2] at z
      exact z
/-- Worth(u, s); Worth(u) -/
theorem ed_mkW {u s : Int} (h : EA K ta δ ow [.int u, .int s]) (hs : s = 0 ∨ s = 1) : ED K (tMake (cW K) (spWI K) [] E0 ta) δ ow (.wt (tn u s)) := fun H0 Hb H σ Q ss k => by
  refine h H0 Hb H σ _ ss fun vs Hn H2 f1 r1 => ?_
  intro x dx hx hdx hne
  obtain ⟨v, w, rfl, r2, r3⟩ := repl2 r1
  rw [Rep] at r2
  rw [Rep] at r3
  subst r2 r3
  obtain ⟨m, hb, hf⟩ := made_fx (C := cW K) (fs := wFs (tn u s)) f1.n2 hx hdx hne
  exact ⟨x, u, s, dx, Hn, rfl, hb, m, upd_same, hs, fun Hk H3 f => ⟨rfl, k _ _ _ (f1.trans (hf Hk H3 f)) (by rw [Rep]; exact ⟨x, dx, rfl, upd_same⟩)⟩⟩
theorem ed_mkW1 {u : Int} (h : EA K ta δ ow [.int u]) : ED K (tMake (cW K) (spWI K) [.int 0] E0 ta) δ ow (.wt (tn u 0)) := fun H0 Hb H σ Q ss k => by
  refine h H0 Hb H σ _ ss fun vs Hn H2 f1 r1 => ?_
  intro x dx hx hdx hne
  obtain ⟨v, rfl, r2⟩ := repl1 r1
  rw [Rep] at r2
  subst r2
  obtain ⟨m, hb, hf⟩ := made_fx (C := cW K) (fs := wFs (tn u 0)) f1.n2 hx hdx hne
  exact ⟨x, u, 0, dx, Hn, rfl, hb, m, upd_same, .inl rfl, fun Hk H3 f => ⟨rfl, k _ _ _ (f1.trans (hf Hk H3 f)) (by rw [Rep]; exact ⟨x, dx, rfl, upd_same⟩)⟩⟩
/-- Deal(b, P, a); Deal(b, P) -/
theorem ed_mkD {b P a : Int} (h : EA K ta δ ow [.int b, .int P, .int a]) (hs : 0 < b ∧ 0 < P ∧ b.natAbs < 2 ^ 400 ∧ P.natAbs < 2 ^ 400) : ED K (tMake (cD K) (spDI K) [] E0 ta) δ ow (.deal (mkb b P) P (a % (mkb b P * P))) := fun H0 Hb H σ Q ss k => by
  refine h H0 Hb H σ _ ss fun vs Hn H2 f1 r1 => ?_
  intro x dx hx hdx hne
  rw [RepL] at r1
  obtain ⟨v, q, rfl, r2, r1⟩ := r1
  obtain ⟨w, y, rfl, r3, r4⟩ := repl2 r1
  rw [Rep] at r2
  rw [Rep] at r3
  rw [Rep] at r4
  subst r2 r3 r4
  obtain ⟨m, hb, hf⟩ := made_fx (C := cD K) (fs := dFs (mkb b P) P (a % (mkb b P * P))) f1.n2 hx hdx hne
  exact ⟨x, b, P, a, dx, Hn, rfl, hb, m, upd_same, hs, fun Hk H3 f => ⟨rfl, k _ _ _ (f1.trans (hf Hk H3 f)) (by rw [Rep]; exact ⟨x, dx, rfl, upd_same⟩)⟩⟩
theorem ed_mkD2 {b P : Int} (h : EA K ta δ ow [.int b, .int P]) (hs : 0 < b ∧ 0 < P ∧ b.natAbs < 2 ^ 400 ∧ P.natAbs < 2 ^ 400) : ED K (tMake (cD K) (spDI K) [.int 0] E0 ta) δ ow (.deal (mkb b P) P (0 % (mkb b P * P))) := fun H0 Hb H σ Q ss k => by
  refine h H0 Hb H σ _ ss fun vs Hn H2 f1 r1 => ?_
  intro x dx hx hdx hne
  obtain ⟨w, y, rfl, r3, r4⟩ := repl2 r1
  rw [Rep] at r3
  rw [Rep] at r4
  subst r3 r4
  obtain ⟨m, hb, hf⟩ := made_fx (C := cD K) (fs := dFs (mkb b P) P (0 % (mkb b P * P))) f1.n2 hx hdx hne
  exact ⟨x, b, P, 0, dx, Hn, rfl, hb, m, upd_same, hs, fun Hk H3 f => ⟨rfl, k _ _ _ (f1.trans (hf Hk H3 f)) (by rw [Rep]; exact ⟨x, dx, rfl, upd_same⟩)⟩⟩
end
/-! ### a, b = e, [] and the like -/
section
variable {K : PySem.W.Frag} {δ : KX.Env} {ta tb : TE} {d e : D} {N : KX.Env → Own → Prop} {R : D → Prop} {i j l : Nat}
/-- a list just made, in slot l; the rest settled -/
theorem own_made {H0 Hb H Hn H2 : Hp} {σ : L2.St} {p : Addr} {Hb0 : Hp} (fx : Fx Hb0 H0 Hb H) (s : SS K H0 Hb H σ δ none) (hp : H p = none) (f : Fx Hb (upd H p (.lst [])) Hn H2) (hl : l < δ.length) :
    Fx Hb0 H0 Hn H2 ∧ SS K H0 Hn H2 (σ.set l (some (.ref p))) (δ.set l none) (some (l, .l [])) := by
  have hb := s.sm.free hp
  have h0 := fx.s.free hp
  have g2 : Hn p = none := f.df p hb (by rw [upd_same]; intro z; cases z)
  have g1 : H2 p = some (.lst []) := f.s _ _ upd_same
  refine ⟨⟨fx.bn.trans f.bn, f.n2, fx.s.trans ((same_new hp).trans f.s), fun b e1 e2 => ?_⟩, f.n2, fun k d e => ?_, by rw [List.length_set, List.length_set, s.len], fun k c e => ?_⟩
  · have h1 := fx.df b e1 e2
    exact f.df b h1 (by
      by_cases q : b = p
      · rw [q, upd_same]; intro z; cases z
      · rw [upd_ne q]
        intro z
        cases w : H0 b with
        | none => exact e2 w
        | some o =>
          rw [fx.s b o w] at z
          cases z)
  · by_cases q : l = k
    · subst q
      rw [List.getElem?_set_self hl] at e
      cases e
    · rw [List.getElem?_set_ne q] at e ⊢
      obtain ⟨v, h1, h2⟩ := s.rep k d e
      exact ⟨v, h1, h2.mono f.bn⟩
  · cases e
    exact ⟨by rw [List.getElem?_set_self hl], p, by rw [List.getElem?_set_self (by rw [← s.len]; exact hl)], h0, g2, [], g1, RepL.nil⟩
theorem ss_made {H0 Hb H : Hp} {σ : L2.St} {p : Addr} (s : SS K H0 Hb H σ δ none) (hp : H p = none) : SS K H0 Hb (upd H p (.lst [])) σ δ none :=
  ⟨s.sm.trans (same_new hp), s.rep, s.len, fun i c e => by cases e⟩
theorem set_comm' {α : Type} {i j : Nat} {a b : α} (h : i ≠ j) (xs : List α) : (xs.set i a).set j b = (xs.set j b).set i a := List.set_comm _ _ h
/-- x, y = e, [] -/
theorem es_parO (he : ED K ta δ none d) (hij : i ≠ j) (hj : j < δ.length) (h : N ((δ.set i (some d)).set j none) (some (j, .l []))) : ES K (tPar i j (tCons ta (tCons (tLst tNil) tNil))) δ none N R := fun Hb0 H0 Hb H σ En fx s kn kr => by
  refine he H0 Hb H σ _ s fun v Hn H2 f1 r1 => ⟨Nat.zero_le _, fun p hp => ?_⟩
  obtain ⟨a1, a2⟩ := own_made (l := j) (fx.trans f1) (s.fx f1) hp (.refl (f1.n2.trans (same_new hp))) hj
  refine ⟨v, _, rfl, ?_⟩
  have a3 := a2.set (i := i) r1 (fun k ds e => by cases e; exact hij)
  rw [set_comm' hij.symm, set_comm' hij.symm] at a3
  exact kn _ _ _ _ _ a1 f1.bn a3 h
/-- x, y, z = e, f, [] -/
theorem es_par3O (he : ED K ta δ none d) (hf : ED K tb δ none e) (hil : i ≠ l) (hjl : j ≠ l) (hl : l < δ.length) (h : N (((δ.set i (some d)).set j (some e)).set l none) (some (l, .l []))) :
    ES K (tPar3 i j l (tCons ta (tCons tb (tCons (tLst tNil) tNil)))) δ none N R := fun Hb0 H0 Hb H σ En fx s kn kr => by
  refine he H0 Hb H σ _ s fun v Hn H2 f1 r1 => ?_
  refine hf H0 Hn H2 σ _ (s.fx f1) fun w Hm H3 f2 r2 => ⟨Nat.zero_le _, fun p hp => ?_⟩
  obtain ⟨a1, a2⟩ := own_made (l := l) ((fx.trans f1).trans f2) ((s.fx f1).fx f2) hp (.refl (f2.n2.trans (same_new hp))) hl
  refine ⟨v, w, _, rfl, ?_⟩
  have a3 := (a2.set (i := i) (r1.mono f2.bn) (fun k ds e => by cases e; exact hil)).set (i := j) r2 (fun k ds e => by cases e; exact hjl)
  rw [set_comm' hil.symm, set_comm' hjl.symm, set_comm' hil.symm, set_comm' hjl.symm] at a3
  exact kn _ _ _ _ _ a1 (f1.bn.trans f2.bn) a3 h
/-- x, y, z = [], e, f -/
theorem es_par3A (he : ED K ta δ none d) (hf : ED K tb δ none e) (hij : i ≠ j) (hil : i ≠ l) (hi : i < δ.length) (h : N (((δ.set i none).set j (some d)).set l (some e)) (some (i, .l []))) :
    ES K (tPar3 i j l (tCons (tLst tNil) (tCons ta (tCons tb tNil)))) δ none N R := fun Hb0 H0 Hb H σ En fx s kn kr => by
  refine ⟨Nat.zero_le _, fun p hp => ?_⟩
  refine he H0 Hb _ σ _ (ss_made s hp) fun v Hn H2 f1 r1 => ?_
  refine hf H0 Hn H2 σ _ ((ss_made s hp).fx f1) fun w Hm H3 f2 r2 => ?_
  obtain ⟨a1, a2⟩ := own_made (l := i) fx s hp (f1.trans f2) hi
  refine ⟨_, v, w, rfl, ?_⟩
  have a3 := (a2.set (i := j) (r1.mono f2.bn) (fun k ds e => by cases e; exact hij.symm)).set (i := l) r2 (fun k ds e => by cases e; exact hil.symm)
  exact kn _ _ _ _ _ a1 (f1.bn.trans f2.bn) a3 h
/-- x, y, z = e, f, g of settled values -/
theorem es_par3 {tc : TE} {c : D} {ow : Own} (he : EA K (tCons ta (tCons tb (tCons tc tNil))) δ ow [d, e, c]) (h : N (((δ.set i (some d)).set j (some e)).set l (some c)) ow) (h1 : offO i ow = true := by rfl) (h2 : offO j ow = true := by rfl) (h3 : offO l ow = true := by rfl) :
    ES K (tPar3 i j l (tCons ta (tCons tb (tCons tc tNil)))) δ ow N R := fun Hb0 H0 Hb H σ En fx s kn kr => by
  refine he H0 Hb H σ _ s fun vs Hn H2 f1 r1 => ?_
  rw [RepL] at r1
  obtain ⟨v, q, rfl, r2, r1⟩ := r1
  obtain ⟨w, y, rfl, r3, r4⟩ := repl2 r1
  exact ⟨v, w, y, rfl, kn _ ow Hn H2 _ (fx.trans f1) f1.bn ((((s.fx f1).set r2 (offO_ok h1)).set r3 (offO_ok h2)).set r4 (offO_ok h3)) h⟩
end
end KX
/-! The defs by place, the facts of the head. Printed by gen.py. -/
namespace KX
open PySem PySem.Spec PyProof.Rows L2
def top (i : Nat) : Stmt := PySem.Challenge.pw_dealtsums_k58_whole_one_chain_of_bounds.main.body.getD i (.Pass ⟨0, 0, 0, 0⟩)
abbrev st_is_integer : Stmt := top 7
abbrev st_is_whole : Stmt := top 8
abbrev st_need_integer : Stmt := top 9
abbrev st_need_whole : Stmt := top 10
abbrev st_need_positive : Stmt := top 11
abbrev st_need_items : Stmt := top 13
abbrev st_ten_to : Stmt := top 15
abbrev st_lowered : Stmt := top 17
abbrev st_Worth___init__ : Stmt := inClass (top 19) 0
abbrev st_Worth___eq__ : Stmt := inClass (top 19) 1
abbrev st_Worth___neg__ : Stmt := inClass (top 19) 8
abbrev st_Worth_sign : Stmt := inClass (top 19) 11
abbrev st_Worth_units_at : Stmt := inClass (top 19) 12
abbrev st_need_worth : Stmt := top 20
abbrev st_worth_sum : Stmt := top 22
abbrev st_compare : Stmt := top 24
abbrev st_need_way : Stmt := top 27
abbrev st_lift : Stmt := top 28
abbrev st_part_of : Stmt := top 29
abbrev st_divided_by : Stmt := top 30
abbrev st_is_entry : Stmt := top 34
abbrev st_need_entries : Stmt := top 35
abbrev st_need_asked : Stmt := top 36
abbrev st_in_parts : Stmt := top 37
abbrev st_loose_parts : Stmt := top 38
abbrev st_added : Stmt := top 39
abbrev st_added_often : Stmt := top 40
abbrev st_running_units : Stmt := top 41
abbrev st_free_entries : Stmt := top 42
abbrev st_single_total : Stmt := top 43
abbrev st_running_total : Stmt := top 44
abbrev st_is_free : Stmt := top 45
abbrev st_even_ends : Stmt := top 46
abbrev st_sided_top : Stmt := top 47
abbrev st_order_range : Stmt := top 48
abbrev st_even_runs : Stmt := top 50
abbrev st_odd_houses : Stmt := top 51
abbrev st_best_given : Stmt := top 52
abbrev st_negated : Stmt := top 53
abbrev st_need_told_giving : Stmt := top 54
abbrev st_given_range : Stmt := top 56
abbrev st_enough : Stmt := top 57
abbrev st_houses_enough : Stmt := top 58
abbrev st_below : Stmt := top 60
abbrev st_Deal___init__ : Stmt := inClass (top 63) 0
abbrev st_Deal_turn : Stmt := inClass (top 63) 4
abbrev st_need_deal : Stmt := top 64
abbrev st_form_of : Stmt := top 66
abbrev st_runs_of : Stmt := top 67
abbrev st_borders_of : Stmt := top 68
abbrev st_counts_of : Stmt := top 69
abbrev st_stretches_of : Stmt := top 70
abbrev st_parts_of : Stmt := top 71
abbrev st_counted_total : Stmt := top 72
abbrev st_dealt_of : Stmt := top 73
abbrev st_dealt_total : Stmt := top 74
abbrev st_need_told_shiftsums : Stmt := top 76
abbrev st_pieces_of : Stmt := top 78
abbrev st_values_of : Stmt := top 79
abbrev st_asked_values : Stmt := top 80
abbrev st_shift_totals : Stmt := top 81
abbrev st_least_shift : Stmt := top 82
abbrev st_greatest_shift : Stmt := top 83
abbrev st__law_rising : Stmt := top 91
abbrev st__law_ends : Stmt := top 92
abbrev st__law_shifts_right : Stmt := top 93
abbrev st__law_giving_right : Stmt := top 94
abbrev st__law_begin : Stmt := top 85
abbrev st__law_draw : Stmt := top 86
abbrev st__law_pick : Stmt := top 87
abbrev st__law_ten : Stmt := top 88
abbrev st__law_size : Stmt := top 89
abbrev st__law_entries : Stmt := top 90
abbrev st_law : Stmt := top 95
def d_is_integer : He.DefD := ⟨("is_integer", none), "is_integer", "is_integer", defArgs st_is_integer, defBody st_is_integer, defScope st_is_integer, [], []⟩
def d_is_whole : He.DefD := ⟨("is_whole", none), "is_whole", "is_whole", defArgs st_is_whole, defBody st_is_whole, defScope st_is_whole, [], []⟩
def d_need_integer : He.DefD := ⟨("need_integer", none), "need_integer", "need_integer", defArgs st_need_integer, defBody st_need_integer, defScope st_need_integer, [], []⟩
def d_need_whole : He.DefD := ⟨("need_whole", none), "need_whole", "need_whole", defArgs st_need_whole, defBody st_need_whole, defScope st_need_whole, [], []⟩
def d_need_positive : He.DefD := ⟨("need_positive", none), "need_positive", "need_positive", defArgs st_need_positive, defBody st_need_positive, defScope st_need_positive, [], []⟩
def d_need_items : He.DefD := ⟨("need_items", none), "need_items", "need_items", defArgs st_need_items, defBody st_need_items, defScope st_need_items, [], []⟩
def d_ten_to : He.DefD := ⟨("ten_to", none), "ten_to", "ten_to", defArgs st_ten_to, defBody st_ten_to, defScope st_ten_to, [], []⟩
def d_lowered : He.DefD := ⟨("lowered", none), "lowered", "lowered", defArgs st_lowered, defBody st_lowered, defScope st_lowered, [], []⟩
def d_Worth___init__ : He.DefD := ⟨("Worth", some "__init__"), "__init__", "Worth.__init__", defArgs st_Worth___init__, defBody st_Worth___init__, defScope st_Worth___init__, [.int 0], []⟩
def d_Worth___eq__ : He.DefD := ⟨("Worth", some "__eq__"), "__eq__", "Worth.__eq__", defArgs st_Worth___eq__, defBody st_Worth___eq__, defScope st_Worth___eq__, [], []⟩
def d_Worth___neg__ : He.DefD := ⟨("Worth", some "__neg__"), "__neg__", "Worth.__neg__", defArgs st_Worth___neg__, defBody st_Worth___neg__, defScope st_Worth___neg__, [], []⟩
def d_Worth_sign : He.DefD := ⟨("Worth", some "sign"), "sign", "Worth.sign", defArgs st_Worth_sign, defBody st_Worth_sign, defScope st_Worth_sign, [], []⟩
def d_Worth_units_at : He.DefD := ⟨("Worth", some "units_at"), "units_at", "Worth.units_at", defArgs st_Worth_units_at, defBody st_Worth_units_at, defScope st_Worth_units_at, [], []⟩
def d_need_worth : He.DefD := ⟨("need_worth", none), "need_worth", "need_worth", defArgs st_need_worth, defBody st_need_worth, defScope st_need_worth, [], []⟩
def d_worth_sum : He.DefD := ⟨("worth_sum", none), "worth_sum", "worth_sum", defArgs st_worth_sum, defBody st_worth_sum, defScope st_worth_sum, [], []⟩
def d_compare : He.DefD := ⟨("compare", none), "compare", "compare", defArgs st_compare, defBody st_compare, defScope st_compare, [], []⟩
def d_need_way : He.DefD := ⟨("need_way", none), "need_way", "need_way", defArgs st_need_way, defBody st_need_way, defScope st_need_way, [], []⟩
def d_lift : He.DefD := ⟨("lift", none), "lift", "lift", defArgs st_lift, defBody st_lift, defScope st_lift, [], []⟩
def d_part_of : He.DefD := ⟨("part_of", none), "part_of", "part_of", defArgs st_part_of, defBody st_part_of, defScope st_part_of, [], []⟩
def d_divided_by : He.DefD := ⟨("divided_by", none), "divided_by", "divided_by", defArgs st_divided_by, defBody st_divided_by, defScope st_divided_by, [], []⟩
def d_is_entry : He.DefD := ⟨("is_entry", none), "is_entry", "is_entry", defArgs st_is_entry, defBody st_is_entry, defScope st_is_entry, [], []⟩
def d_need_entries : He.DefD := ⟨("need_entries", none), "need_entries", "need_entries", defArgs st_need_entries, defBody st_need_entries, defScope st_need_entries, [], []⟩
def d_need_asked : He.DefD := ⟨("need_asked", none), "need_asked", "need_asked", defArgs st_need_asked, defBody st_need_asked, defScope st_need_asked, [], []⟩
def d_in_parts : He.DefD := ⟨("in_parts", none), "in_parts", "in_parts", defArgs st_in_parts, defBody st_in_parts, defScope st_in_parts, [], []⟩
def d_loose_parts : He.DefD := ⟨("loose_parts", none), "loose_parts", "loose_parts", defArgs st_loose_parts, defBody st_loose_parts, defScope st_loose_parts, [], []⟩
def d_added : He.DefD := ⟨("added", none), "added", "added", defArgs st_added, defBody st_added, defScope st_added, [], []⟩
def d_added_often : He.DefD := ⟨("added_often", none), "added_often", "added_often", defArgs st_added_often, defBody st_added_often, defScope st_added_often, [], []⟩
def d_running_units : He.DefD := ⟨("running_units", none), "running_units", "running_units", defArgs st_running_units, defBody st_running_units, defScope st_running_units, [], []⟩
def d_free_entries : He.DefD := ⟨("free_entries", none), "free_entries", "free_entries", defArgs st_free_entries, defBody st_free_entries, defScope st_free_entries, [], []⟩
def d_single_total : He.DefD := ⟨("single_total", none), "single_total", "single_total", defArgs st_single_total, defBody st_single_total, defScope st_single_total, [], []⟩
def d_running_total : He.DefD := ⟨("running_total", none), "running_total", "running_total", defArgs st_running_total, defBody st_running_total, defScope st_running_total, [], []⟩
def d_is_free : He.DefD := ⟨("is_free", none), "is_free", "is_free", defArgs st_is_free, defBody st_is_free, defScope st_is_free, [], []⟩
def d_even_ends : He.DefD := ⟨("even_ends", none), "even_ends", "even_ends", defArgs st_even_ends, defBody st_even_ends, defScope st_even_ends, [], []⟩
def d_sided_top : He.DefD := ⟨("sided_top", none), "sided_top", "sided_top", defArgs st_sided_top, defBody st_sided_top, defScope st_sided_top, [], []⟩
def d_order_range : He.DefD := ⟨("order_range", none), "order_range", "order_range", defArgs st_order_range, defBody st_order_range, defScope st_order_range, [], []⟩
def d_even_runs : He.DefD := ⟨("even_runs", none), "even_runs", "even_runs", defArgs st_even_runs, defBody st_even_runs, defScope st_even_runs, [], []⟩
def d_odd_houses : He.DefD := ⟨("odd_houses", none), "odd_houses", "odd_houses", defArgs st_odd_houses, defBody st_odd_houses, defScope st_odd_houses, [], []⟩
def d_best_given : He.DefD := ⟨("best_given", none), "best_given", "best_given", defArgs st_best_given, defBody st_best_given, defScope st_best_given, [], []⟩
def d_negated : He.DefD := ⟨("negated", none), "negated", "negated", defArgs st_negated, defBody st_negated, defScope st_negated, [], []⟩
def d_need_told_giving : He.DefD := ⟨("need_told_giving", none), "need_told", "need_told", defArgs st_need_told_giving, defBody st_need_told_giving, defScope st_need_told_giving, [], []⟩
def d_given_range : He.DefD := ⟨("given_range", none), "given_range", "given_range", defArgs st_given_range, defBody st_given_range, defScope st_given_range, [], []⟩
def d_enough : He.DefD := ⟨("enough", none), "enough", "enough", defArgs st_enough, defBody st_enough, defScope st_enough, [], []⟩
def d_houses_enough : He.DefD := ⟨("houses_enough", none), "houses_enough", "houses_enough", defArgs st_houses_enough, defBody st_houses_enough, defScope st_houses_enough, [], []⟩
def d_below : He.DefD := ⟨("below", none), "below", "below", defArgs st_below, defBody st_below, defScope st_below, [], []⟩
def d_Deal___init__ : He.DefD := ⟨("Deal", some "__init__"), "__init__", "Deal.__init__", defArgs st_Deal___init__, defBody st_Deal___init__, defScope st_Deal___init__, [.int 0], []⟩
def d_Deal_turn : He.DefD := ⟨("Deal", some "turn"), "turn", "Deal.turn", defArgs st_Deal_turn, defBody st_Deal_turn, defScope st_Deal_turn, [], []⟩
def d_need_deal : He.DefD := ⟨("need_deal", none), "need_deal", "need_deal", defArgs st_need_deal, defBody st_need_deal, defScope st_need_deal, [], []⟩
def d_form_of : He.DefD := ⟨("form_of", none), "form_of", "form_of", defArgs st_form_of, defBody st_form_of, defScope st_form_of, [], []⟩
def d_runs_of : He.DefD := ⟨("runs_of", none), "runs_of", "runs_of", defArgs st_runs_of, defBody st_runs_of, defScope st_runs_of, [], []⟩
def d_borders_of : He.DefD := ⟨("borders_of", none), "borders_of", "borders_of", defArgs st_borders_of, defBody st_borders_of, defScope st_borders_of, [], []⟩
def d_counts_of : He.DefD := ⟨("counts_of", none), "counts_of", "counts_of", defArgs st_counts_of, defBody st_counts_of, defScope st_counts_of, [], []⟩
def d_stretches_of : He.DefD := ⟨("stretches_of", none), "stretches_of", "stretches_of", defArgs st_stretches_of, defBody st_stretches_of, defScope st_stretches_of, [], []⟩
def d_parts_of : He.DefD := ⟨("parts_of", none), "parts_of", "parts_of", defArgs st_parts_of, defBody st_parts_of, defScope st_parts_of, [], []⟩
def d_counted_total : He.DefD := ⟨("counted_total", none), "counted_total", "counted_total", defArgs st_counted_total, defBody st_counted_total, defScope st_counted_total, [], []⟩
def d_dealt_of : He.DefD := ⟨("dealt_of", none), "dealt_of", "dealt_of", defArgs st_dealt_of, defBody st_dealt_of, defScope st_dealt_of, [], []⟩
def d_dealt_total : He.DefD := ⟨("dealt_total", none), "dealt_total", "dealt_total", defArgs st_dealt_total, defBody st_dealt_total, defScope st_dealt_total, [], []⟩
def d_need_told_shiftsums : He.DefD := ⟨("need_told_shiftsums", none), "need_told", "need_told", defArgs st_need_told_shiftsums, defBody st_need_told_shiftsums, defScope st_need_told_shiftsums, [], []⟩
def d_pieces_of : He.DefD := ⟨("pieces_of", none), "pieces_of", "pieces_of", defArgs st_pieces_of, defBody st_pieces_of, defScope st_pieces_of, [], []⟩
def d_values_of : He.DefD := ⟨("values_of", none), "values_of", "values_of", defArgs st_values_of, defBody st_values_of, defScope st_values_of, [], []⟩
def d_asked_values : He.DefD := ⟨("asked_values", none), "asked_values", "asked_values", defArgs st_asked_values, defBody st_asked_values, defScope st_asked_values, [], []⟩
def d_shift_totals : He.DefD := ⟨("shift_totals", none), "shift_totals", "shift_totals", defArgs st_shift_totals, defBody st_shift_totals, defScope st_shift_totals, [], []⟩
def d_least_shift : He.DefD := ⟨("least_shift", none), "least_shift", "least_shift", defArgs st_least_shift, defBody st_least_shift, defScope st_least_shift, [], []⟩
def d_greatest_shift : He.DefD := ⟨("greatest_shift", none), "greatest_shift", "greatest_shift", defArgs st_greatest_shift, defBody st_greatest_shift, defScope st_greatest_shift, [], []⟩
def d__law_rising : He.DefD := ⟨("_law_rising", none), "_law_rising", "_law_rising", defArgs st__law_rising, defBody st__law_rising, defScope st__law_rising, [], []⟩
def d__law_ends : He.DefD := ⟨("_law_ends", none), "_law_ends", "_law_ends", defArgs st__law_ends, defBody st__law_ends, defScope st__law_ends, [], []⟩
def d__law_shifts_right : He.DefD := ⟨("_law_shifts_right", none), "_law_shifts_right", "_law_shifts_right", defArgs st__law_shifts_right, defBody st__law_shifts_right, defScope st__law_shifts_right, [], []⟩
def d__law_giving_right : He.DefD := ⟨("_law_giving_right", none), "_law_giving_right", "_law_giving_right", defArgs st__law_giving_right, defBody st__law_giving_right, defScope st__law_giving_right, [], []⟩
def d__law_begin : He.DefD := ⟨("_law_begin", none), "_law_begin", "_law_begin", defArgs st__law_begin, defBody st__law_begin, defScope st__law_begin, [], []⟩
def d__law_draw : He.DefD := ⟨("_law_draw", none), "_law_draw", "_law_draw", defArgs st__law_draw, defBody st__law_draw, defScope st__law_draw, [], []⟩
def d__law_pick : He.DefD := ⟨("_law_pick", none), "_law_pick", "_law_pick", defArgs st__law_pick, defBody st__law_pick, defScope st__law_pick, [], []⟩
def d__law_ten : He.DefD := ⟨("_law_ten", none), "_law_ten", "_law_ten", defArgs st__law_ten, defBody st__law_ten, defScope st__law_ten, [], []⟩
def d__law_size : He.DefD := ⟨("_law_size", none), "_law_size", "_law_size", defArgs st__law_size, defBody st__law_size, defScope st__law_size, [], []⟩
def d__law_entries : He.DefD := ⟨("_law_entries", none), "_law_entries", "_law_entries", defArgs st__law_entries, defBody st__law_entries, defScope st__law_entries, [], []⟩
def d_law : He.DefD := ⟨("law", none), "law", "law", defArgs st_law, defBody st_law, defScope st_law, [], []⟩
def fn : List He.DefD := [d_is_integer, d_is_whole, d_need_integer, d_need_whole, d_need_positive, d_need_items, d_ten_to, d_lowered, d_Worth___init__, d_Worth___eq__, d_Worth___neg__, d_Worth_sign, d_Worth_units_at, d_need_worth, d_worth_sum, d_compare, d_need_way, d_lift, d_part_of, d_divided_by, d_is_entry, d_need_entries, d_need_asked, d_in_parts, d_loose_parts, d_added, d_added_often, d_running_units, d_free_entries, d_single_total, d_running_total, d_is_free, d_even_ends, d_sided_top, d_order_range, d_even_runs, d_odd_houses, d_best_given, d_negated, d_need_told_giving, d_given_range, d_enough, d_houses_enough, d_below, d_Deal___init__, d_Deal_turn, d_need_deal, d_form_of, d_runs_of, d_borders_of, d_counts_of, d_stretches_of, d_parts_of, d_counted_total, d_dealt_of, d_dealt_total, d_need_told_shiftsums, d_pieces_of, d_values_of, d_asked_values, d_shift_totals, d_least_shift, d_greatest_shift, d__law_rising, d__law_ends, d__law_shifts_right, d__law_giving_right, d__law_begin, d__law_draw, d__law_pick, d__law_ten, d__law_size, d__law_entries, d_law]
def gloL : List Str := ((["is_integer", "is_whole", "need_integer", "need_whole", "need_positive", "need_items", "ten_to", "lowered", "need_worth", "worth_sum", "compare", "need_way", "lift", "part_of", "divided_by", "is_entry", "need_entries", "need_asked", "in_parts", "loose_parts", "added", "added_often", "running_units", "free_entries", "single_total"] : List Str) ++ ((["running_total", "is_free", "even_ends", "sided_top", "order_range", "even_runs", "odd_houses", "best_given", "negated", "need_told_giving", "given_range", "enough", "houses_enough", "below", "need_deal", "form_of", "runs_of", "borders_of", "counts_of", "stretches_of", "parts_of", "counted_total", "dealt_of", "dealt_total", "need_told_shiftsums"] : List Str) ++ (["pieces_of", "values_of", "asked_values", "shift_totals", "least_shift", "greatest_shift", "_law_rising", "_law_ends", "_law_shifts_right", "_law_giving_right", "_law_begin", "_law_draw", "_law_pick", "_law_ten", "_law_size", "_law_entries", "law", "Worth", "Deal", "WAYS", "SIDED", "LOWERING"] : List Str)))
def freeL : List Str := (["int", "bool", "list", "tuple", "range", "enumerate", "zip", "abs", "max", "min", "len", "sum", "any", "all", "sorted", "isinstance", "divmod"] : List Str)
def noL : List (Str × Str) := [("Worth", "units"), ("Worth", "scale"), ("Deal", "houses"), ("Deal", "block"), ("Deal", "shift")]
def meL : List (Str × Str) := [("Worth", "__eq__"), ("Worth", "__neg__"), ("Worth", "sign"), ("Worth", "units_at"), ("Deal", "turn")]
def fa : List He.Fa := gloL.map .glo ++ (freeL.map .free ++ (noL.map (fun p => .noat p.1 p.2) ++ (meL.map (fun p => .meth p.1 p.2) ++ [.cls "Worth", .cls "Deal", .mkr "Worth", .mkr "Deal"])))
def waysL : List Str := ["floor", "ceiling", "cut", "away", "halfup", "halfdown", "halfeven", "halfaway", "halfcut"]
def sidedL : List Str := ["cut", "away", "halfaway", "halfcut"]
def lowerL : List Str := ["cut", "halfcut"]
def isB (K : PySem.W.Frag) (C : Addr) : Bool := He.eqO (PySem.W.findIn K (.ref C) "__class__") (some (some (.builtin "object.__class__"))) && (decide (PySem.W.mroIn K C (.type "object") = some true) && decide (PySem.W.kitOne K (.ref C) (.ref C) = some true))
def exB (K : PySem.W.Frag) : Bool := He.tupB K "WAYS" (waysL.map .str) && (He.tupB K "SIDED" (sidedL.map .str) && (He.tupB K "LOWERING" (lowerL.map .str) && (He.eqO (PySem.W.findIn K (.ref (cW K)) "__ne__") (some (some (.builtin "object.__ne__"))) && (isB K (cW K) && (isB K (cD K) &&
  (He.eqO (PySem.W.specialIn K (.builtin "object.__class__") "__get__") (some (some (.builtin "getset_descriptor.__get__"))) && decide (PySem.W.takesIn K (.builtin "object.__class__") = some true)))))))
structure Bas (K : PySem.W.Frag) (mg : Str → Option Value) : Prop where
  hp : ∃ h, K.In h ∧ h.Ns mainGlobals mg
  c : He.SaysD fa fn K
  e : exB K = true
section
variable {K : PySem.W.Frag} {mg : Str → Option Value} (Z : Bas K mg)
include Z
theorem Bas.fact {f : He.Fa} (h : f ∈ fa) : f.ok K = true := by
  obtain ⟨i, hi⟩ := List.mem_iff_getElem?.mp h
  exact Z.c.fact i hi
theorem Bas.glo (x : Str) (h : gloL.contains x = true := by decide +kernel) : mg x = some (.ref (He.ga K x)) := by
  obtain ⟨hh, X, G⟩ := Z.hp
  exact He.glo_ok X G (Z.fact (List.mem_append_left _ (List.mem_map_of_mem (by simpa using h))))
theorem Bas.free (x : Str) (h : freeL.contains x = true := by decide +kernel) : mg x = none := by
  obtain ⟨hh, X, G⟩ := Z.hp
  exact He.free_ok X G (Z.fact (List.mem_append_right _ (List.mem_append_left _ (List.mem_map_of_mem (by simpa using h)))))
theorem Bas.noat (x f : Str) (h : noL.contains (x, f) = true := by decide +kernel) : NoAttr K (He.ga K x) f :=
  He.noat_ok (Z.fact (List.mem_append_right _ (List.mem_append_right _ (List.mem_append_left _ (List.mem_map.mpr ⟨(x, f), by simpa using h, rfl⟩)))))
theorem Bas.meth (x m : Str) (h : meL.contains (x, m) = true := by decide +kernel) : Meth K (He.ga K x) m (He.ma K (He.ga K x) m) :=
  He.meth_ok (Z.fact (List.mem_append_right _ (List.mem_append_right _ (List.mem_append_right _ (List.mem_append_left _ (List.mem_map.mpr ⟨(x, m), by simpa using h, rfl⟩))))))
theorem Bas.tail {f : He.Fa} (h : f ∈ [He.Fa.cls "Worth", .cls "Deal", .mkr "Worth", .mkr "Deal"]) : f.ok K = true :=
  Z.fact (List.mem_append_right _ (List.mem_append_right _ (List.mem_append_right _ (List.mem_append_right _ h))))
theorem Bas.clW : Cls K (cW K) := He.cls_ok (Z.tail (.head _))
theorem Bas.clD : Cls K (cD K) := He.cls_ok (Z.tail (.tail _ (.head _)))
theorem Bas.mkW : Mk K (cW K) (He.ma K (cW K) "__init__") := He.mkr_ok (Z.tail (.tail _ (.tail _ (.head _))))
theorem Bas.mkD : Mk K (cD K) (He.ma K (cD K) "__init__") := He.mkr_ok (Z.tail (.tail _ (.tail _ (.tail _ (.head _)))))
theorem Bas.ex : He.tupB K "WAYS" (waysL.map .str) = true ∧ He.tupB K "SIDED" (sidedL.map .str) = true ∧ He.tupB K "LOWERING" (lowerL.map .str) = true ∧ He.eqO (PySem.W.findIn K (.ref (cW K)) "__ne__") (some (some (.builtin "object.__ne__"))) = true ∧ isB K (cW K) = true ∧ isB K (cD K) = true ∧
    He.eqO (PySem.W.specialIn K (.builtin "object.__class__") "__get__") (some (some (.builtin "getset_descriptor.__get__"))) = true ∧ decide (PySem.W.takesIn K (.builtin "object.__class__") = some true) = true := by
  obtain ⟨a, h⟩ := He.ba Z.e
  obtain ⟨b, h⟩ := He.ba h
  obtain ⟨c, h⟩ := He.ba h
  obtain ⟨d, h⟩ := He.ba h
  obtain ⟨e, h⟩ := He.ba h
  obtain ⟨f, h⟩ := He.ba h
  obtain ⟨g, h⟩ := He.ba h
  exact ⟨a, b, c, d, e, f, g, h⟩
theorem Bas.ways (H : Hp) : SqT K H (He.ga K "WAYS") (waysL.map V.str) := by
  have h := He.tupB_ok Z.ex.1 H
  rw [List.map_map] at h
  exact h
theorem Bas.sided (H : Hp) : SqT K H (He.ga K "SIDED") (sidedL.map V.str) := by
  have h := He.tupB_ok Z.ex.2.1 H
  rw [List.map_map] at h
  exact h
theorem Bas.lower (H : Hp) : SqT K H (He.ga K "LOWERING") (lowerL.map V.str) := by
  have h := He.tupB_ok Z.ex.2.2.1 H
  rw [List.map_map] at h
  exact h
theorem Bas.ne : PySem.W.findIn K (.ref (cW K)) "__ne__" = some (some (.builtin "object.__ne__")) := He.eqO_ok Z.ex.2.2.2.1
theorem isB_ok {C : Addr} (cl : Cls K C) (h : isB K C = true) : IsC K C := by
  obtain ⟨h1, h2⟩ := He.ba h
  obtain ⟨h3, h4⟩ := He.ba h2
  exact ⟨cl, He.eqO_ok h1, He.eqO_ok Z.ex.2.2.2.2.2.2.1, of_decide_eq_true Z.ex.2.2.2.2.2.2.2, of_decide_eq_true h3, of_decide_eq_true h4⟩
theorem Bas.isW : IsC K (cW K) := isB_ok Z Z.clW Z.ex.2.2.2.2.1
theorem Bas.isD : IsC K (cD K) := isB_ok Z Z.clD Z.ex.2.2.2.2.2.1
end
end KX
/-! The head, run once: the facts hold where the law is called. -/
namespace KX
open PySem PySem.Spec PyProof.Rows L2
abbrev RowL : PySem.W.OpenRow := PySem.W.OpenLaw.row PySem.Challenge.rw_dealtsums_k58_whole_one_chain_of_bounds
abbrev AlX : Type := Bool × He.AlD
/-- the places looked at -/
def asX : List Addr := mainGlobals :: (List.range 830).reverse
def obsX (g : Addr → Option Obj) : AlX := (exB (He.frG g asX), He.obsD fa fn (He.frG g asX))
def hookX : PySem.W.Hook where
  α := AlX
  obs := fun s => obsX s.heap.get?
  val := fun _ => (true, He.valD fn)
  says := fun _ h => ∃ K : PySem.W.Frag, K.In h ∧ exB K = true ∧ He.SaysD fa fn K
  of := fun _ _ e => ⟨_, He.frG_in, congrArg (fun z : AlX => z.1) e, congrArg (fun z : AlX => z.2) e⟩
  keeps := fun _ _ _ ⟨K, hK, c⟩ k => ⟨K, PySem.W.Frag.In.keeps hK k, c⟩
def obX (s : PySem.W.SharedT) : AlX := obsX (HandSHeadRun.getT s)
theorem obX_eq (s : PySem.W.SharedT) : obX s = hookX.obs s.abs := by
  have e : HandSHeadRun.getT s = s.abs.heap.get? := funext (HandSHeadRun.getT_eq s)
  show obsX (HandSHeadRun.getT s) = obsX s.abs.heap.get?
  rw [e]
def names0 : List PySem.Str := ["_wall", "SumError", "BadValue", "TooFine", "NotTold", "is_integer", "is_whole", "need_integer", "need_whole", "need_positive", "need_below", "need_items", "ten_to", "lowered", "figures_text", "Worth", "need_worth", "worth_of", "worth_sum", "multiplied", "compare", "WAYS", "need_way", "lift", "part_of", "divided_by", "SIDED", "LOWERING", "is_entry", "need_entries"]
def names1 : List PySem.Str := ["need_asked", "in_parts", "loose_parts", "added", "added_often", "running_units", "free_entries", "single_total", "running_total", "is_free", "even_ends", "sided_top", "order_range", "even_runs", "odd_houses", "best_given", "negated", "need_told", "need_told_giving", "given_range", "enough", "houses_enough", "below", "Window", "Deal", "need_deal", "form_of", "runs_of", "borders_of", "counts_of"]
def names2 : List PySem.Str := ["stretches_of", "parts_of", "counted_total", "dealt_of", "dealt_total", "need_told_shiftsums", "pieces_of", "values_of", "asked_values", "shift_totals", "least_shift", "greatest_shift", "_law_begin", "_law_draw", "_law_pick", "_law_ten", "_law_size", "_law_entries", "_law_rising", "_law_ends", "_law_shifts_right", "_law_giving_right"]
def names : List PySem.Str := names0 ++ (names1 ++ names2)
theorem run (w : World) : HandSHeadRun.RunEq RowL (PySem.W.view RowL.prog [95]) hookX obX 12000 names w := by
  intro os
  kernel_rfl
end KX
/-! list(zip(a, b)) of two lists. All that it makes has a place that is known ahead: where n objects stand, the two iterators come to n and n + 1, the zip's own tuples to n + 2 and n + 3, the zip to n + 4, the list to n + 5 and the j-th pair to n + 6 + j. -/
namespace KX
open PySem PySem.Spec PyProof.Rows L2 PySem.Calls
section
variable {h h' : Heap} {S : Addr} {us : Array Value}
/-- a plain list stands at S -/
abbrev Plain (h : Heap) (S : Addr) (us : Array Value) : Prop := ∃ c, h.get? S = some { cls := .type "list", dict := none, data := .seq us c, slots := #[] }
theorem Plain.set (p : Plain h S us) (f : Array Value → Array Value) : Plain (h.update S (Obj.mapSeq f)) S (f us) :=
  let ⟨_, e⟩ := p
  ⟨_, Heap.get?_update_self _ e rfl⟩
/-- where list(zip(..)) stands behind i items -/
structure Zl (n : Nat) (l1 l2 : Addr) (xs ys : Array Value) (i : Nat) (h : Heap) : Prop where
  size : h.objs.size = n + 6 + i
  its : IsPair h (n + 2) (.ref n) (.ref (n + 1))
  at1 : h.IsListIter n l1 i
  at2 : h.IsListIter (n + 1) l2 i
  one : h.IsList l1 xs
  two : h.IsList l2 ys
  zip : (IsZip h (n + 4) (n + 2) (n + 3) .none ∧ IsPair h (n + 3) .none .none) ∨ ∃ (f : Bool) (j : Nat) (o : Obj), IsZipHeld h (n + 4) (n + 2) (n + 3) (n + 6 + j) f ∧ h.get? (n + 6 + j) = some o
  made : ∀ (j : Nat) (x y : Value), j < i → xs[j]? = some x → ys[j]? = some y → IsPair h (n + 6 + j) x y
variable {n i : Nat} {l1 l2 : Addr} {xs ys : Array Value}
/-- a write at the list changes none of it -/
theorem Zl.wrote (z : Zl n l1 l2 xs ys i h) (h1 : l1 < n) (h2 : l2 < n) (sb : Heap.SameBut (n + 5) h h') : Zl n l1 l2 xs ys i h' := by
  have k : ∀ (b : Nat) (o : Obj), b ≠ n + 5 → h.get? b = some o → h'.get? b = some o := fun b o hb e => (sb.2 b hb).trans e
  refine ⟨sb.1.trans z.size, k _ _ (by omega) z.its, z.at1.at fun o e => k n o (show n ≠ n + 5 by omega) e, z.at2.at fun o e => k (n + 1) o (show n + 1 ≠ n + 5 by omega) e, z.one.at fun o e => k l1 o (PySem.W.ktu_ne 5 h1) e, z.two.at fun o e => k l2 o (PySem.W.ktu_ne 5 h2) e, ?_, fun j x y a b c => k _ _ (by omega) (z.made j x y a b c)⟩
  rcases z.zip with ⟨q, r⟩ | ⟨f, j, o, q, r⟩
  · exact .inl ⟨k _ _ (by omega) q, k _ _ (by omega) r⟩
  · exact .inr ⟨f, j, o, k _ _ (by omega) q, k _ _ (by omega) r⟩
end
section
variable {prog : Program} {w : World} {A : Around} {E : Value → Shared → Prop} {s : Shared} {n i : Nat} {l1 l2 : Addr} {xs ys : Array Value}
/-- the next pair -/
theorem Zl.next (z : Zl n l1 l2 xs ys i s.heap) (h1 : l1 < n) (h2 : l2 < n) {x y : Value} (ex : xs[i]? = some x) (ey : ys[i]? = some y) {Q : Option Value → Shared → Prop}
    (hQ : ∀ h', Zl n l1 l2 xs ys (i + 1) h' → (∀ (b : Nat) (o : Obj), b < n ∨ b = n + 5 → s.heap.get? b = some o → h'.get? b = some o) → Q (some (.ref (n + 6 + i))) { s with heap := h' }) : wpAny (model prog w) A (pyNext (.ref (n + 4))) Q E s := by
  have D := PySem.W.ktu_apart n l1 l2 h1 h2
  have fin : ∀ (h' : Heap) (f : Bool) (T : Nat), IsZipHeld h' (n + 4) (n + 2) (n + 3) T f → (∃ j o, T = n + 6 + j ∧ h'.get? T = some o) → h'.IsListIter n l1 (i + 1) → h'.IsListIter (n + 1) l2 (i + 1) → IsPair h' s.heap.objs.size x y → h'.objs.size = s.heap.objs.size + 1 →
      (∀ c o, c ≠ n + 4 → c ≠ n + 3 → c ≠ n → c ≠ n + 1 → s.heap.get? c = some o → h'.get? c = some o) → Q (some (.ref s.heap.objs.size)) { s with heap := h' } := fun h' f T q out a1 a2 p sz hk => by
    have k : ∀ (b : Nat) (o : Obj), b < n ∨ b = n + 2 ∨ n + 5 ≤ b → s.heap.get? b = some o → h'.get? b = some o := fun b o hb e => hk b o (show (b : Nat) ≠ n + 4 by omega) (show (b : Nat) ≠ n + 3 by omega) (show (b : Nat) ≠ n by omega) (show (b : Nat) ≠ n + 1 by omega) e
    rw [z.size] at p sz ⊢
    obtain ⟨j0, o0, rfl, alive⟩ := out
    refine hQ h' ⟨sz, k _ _ (by omega) z.its, a1, a2, z.one.at fun o e => k l1 o (.inl h1) e, z.two.at fun o e => k l2 o (.inl h2) e, .inr ⟨f, j0, o0, q, alive⟩, fun j u v hj e1 e2 => ?_⟩ fun b o hb e => k b o (by omega) e
    by_cases hi : j = i
    · subst hi
      rw [ex] at e1
      rw [ey] at e2
      cases e1
      cases e2
      exact p
    · exact k _ _ (by omega) (z.made j u v (by omega) e1 e2)
  rcases z.zip with ⟨q, r⟩ | ⟨f, j, o, q, r⟩
  · exact wpAny_pyNext_zip_item D q z.its r z.at1 z.at2 z.one z.two ex ey fun h' a1 _ a3 a4 a5 a6 hk => fin h' false _ a1 ⟨i, _, z.size, a5⟩ a3 a4 a5 a6 hk
  · exact wpAny_pyNext_zip_item_held D q r z.its z.at1 z.at2 z.one z.two ex ey fun h' a1 a3 a4 a5 a6 hk => fin h' true _ a1 ⟨j, o, rfl, hk _ o (show (n + 6 + j : Nat) ≠ n + 4 by omega) (show (n + 6 + j : Nat) ≠ n by omega) (show (n + 6 + j : Nat) ≠ n + 1 by omega) r⟩ a3 a4 a5 a6 fun c o c1 _ c3 c4 e => hk c o c1 c3 c4 e
/-- no pair more -/
theorem Zl.stop (z : Zl n l1 l2 xs ys i s.heap) (hh : A.handled = none) (h1 : l1 < n) (h2 : l2 < n) (he : xs[i]? = none) {Q : Option Value → Shared → Prop}
    (hQ : ∀ h', (∀ (b : Nat) (o : Obj), b < n ∨ n + 5 ≤ b → s.heap.get? b = some o → h'.get? b = some o) → Q none { s with heap := h' }) : wpAny (model prog w) A (pyNext (.ref (n + 4))) Q E s := by
  have D := PySem.W.ktu_apart n l1 l2 h1 h2
  have fin : ∀ h' : Heap, (∀ c o, c ≠ n + 4 → c ≠ n + 3 → c ≠ n → c ≠ n + 1 → s.heap.get? c = some o → h'.get? c = some o) → Q none { s with heap := h' } := fun h' hk => hQ h' fun b o hb e =>
    hk b o (show (b : Nat) ≠ n + 4 by omega) (show (b : Nat) ≠ n + 3 by omega) (show (b : Nat) ≠ n by omega) (show (b : Nat) ≠ n + 1 by omega) e
  rcases z.zip with ⟨q, r⟩ | ⟨f, j, o, q, r⟩
  · exact wpAny_pyNext_zip_end hh D q z.its r z.at1 z.at2 z.one z.two (.inl he) fin
  · exact wpAny_pyNext_zip_end_held hh D q r z.its z.at1 z.at2 z.one z.two (.inl he) fun h' hk => fin h' fun c o c1 _ c3 c4 e => hk c o c1 c3 c4 e
/-- the pairs' places -/
def pairsAt (n m : Nat) : List Addr := (List.range m).map fun j => n + 6 + j
/-- the loop that fills the list: d pairs are still to come -/
theorem zl_fill {R : Result → Shared → Prop} (hh : A.handled = none) (h1 : l1 < n) (h2 : l2 < n) (hxy : xs.size = ys.size) (hn : xs.size ≤ sizeLine) (res : Value) {h0 : Heap}
    (hR : ∀ h' us, us.toList = (pairsAt n xs.size).map Value.ref → Plain h' (n + 5) us → (∀ (j : Nat) (x y : Value), xs[j]? = some x → ys[j]? = some y → IsPair h' (n + 6 + j) x y) → (∀ (b : Nat) (o : Obj), b < n → h0.get? b = some o → h'.get? b = some o) → R (.ok (.ret res)) { s with heap := h' }) :
    ∀ (d i : Nat) (h : Heap) (us : Array Value), i + d = xs.size → Zl n l1 l2 xs ys i h → Plain h (n + 5) us → us.toList = (pairsAt n i).map Value.ref → (∀ (b : Nat) (o : Obj), b < n → h0.get? b = some o → h.get? b = some o) →
      codeAny (model prog w) A (.builtin "list.extend.loop" ⟨[.ref (n + 5), .ref (n + 4), res], []⟩) R { s with heap := h } := by
  intro d
  induction d with
  | zero =>
    intro i h us hi z p e k
    obtain rfl : i = xs.size := hi
    refine codeAny_builtin PySem.F.entry_extend_loop ?_
    rw [Around.under_plainId PySem.F.plain_extend_loop _]
    show wpAny _ A.in1 (pyNext (.ref (n + 4)) >>= _) _ _ _
    refine wpAny_bind (Zl.stop (A := A.in1) (s := { s with heap := h }) z hh h1 h2 (Array.getElem?_eq_none (Nat.le_refl _)) fun h' hk => wpAny_pure (hR h' us e ?_ (fun j x y ex ey => ?_) fun b o hb q => hk b o (.inl hb) (k b o hb q)))
    · obtain ⟨c, q⟩ := p
      exact ⟨c, hk _ _ (by omega) q⟩
    · exact hk _ _ (by omega) (z.made j x y (Array.getElem?_eq_some_iff.mp ex).1 ex ey)
  | succ d ih =>
    intro i h us hi z p e k
    have hx : i < xs.size := by omega
    refine codeAny_builtin PySem.F.entry_extend_loop ?_
    rw [Around.under_plainId PySem.F.plain_extend_loop _]
    show wpAny _ A.in1 (pyNext (.ref (n + 4)) >>= _) _ _ _
    refine wpAny_bind (Zl.next (s := { s with heap := h }) z h1 h2 (Array.getElem?_eq_getElem hx) (Array.getElem?_eq_getElem (hxy ▸ hx)) fun h' z' hk => ?_)
    have p' : Plain h' (n + 5) us := let ⟨c, q⟩ := p; ⟨c, hk _ _ (.inr rfl) q⟩
    have len : us.size = i := by rw [← Array.length_toList, e, List.length_map, pairsAt, List.length_map, List.length_range]
    obtain ⟨c, q⟩ := id p'
    show wpAny _ A.in1 (updateSeq (n + 5) (·.push (.ref (n + 6 + i))) >>= _) _ _ _
    refine wpAny_bind (wpAny_updateSeq q rfl (wpAny_pure ⟨plainId_quiet PySem.F.plain_extend_loop _, ?_⟩) (by omega) (by show (us.push (.ref (n + 6 + i))).size ≤ sizeLine + 1; rw [Array.size_push]; omega))
    refine ih (i + 1) _ (us.push (.ref (n + 6 + i))) (by omega) (z'.wrote h1 h2 (.update ..)) (p'.set (·.push (.ref (n + 6 + i)))) ?_ fun b o hb q => ?_
    · rw [Array.toList_push, e]
      simp only [pairsAt, List.range_succ, List.map_append, List.map_cons, List.map_nil]
    · exact (Heap.get?_update_other _ _ (show (n + 5 : Nat) ≠ b by omega)).trans (hk b o (.inl hb) (k b o hb q))
end
section
variable {prog : Program} {w : World} {A : Around} {E : Value → Shared → Prop} {s : Shared}
theorem zip_no_len : typeLookup (.type "zip") "__len__" = pure none := am_miss_of_fast (by decide +kernel)
theorem zip_no_hint : typeLookup (.type "zip") "__length_hint__" = pure none := am_miss_of_fast (by decide +kernel)
/-- list's own beginning: it empties the list at S, makes room and goes into the loop -/
theorem list_from_zip {R : Result → Shared → Prop} {z TI TO S : Addr} (hz : IsZip s.heap z TI TO .none) (ne : S ≠ z) (p : Plain s.heap S #[])
    (k : ∀ h', Heap.SameBut S s.heap h' → Plain h' S #[] → codeAny (model prog w) A (.builtin "list.extend.loop" ⟨[.ref S, .ref z, .none], []⟩) R { s with heap := h' }) :
    wpAny (model prog w) A.in1 (Builtin.«list.__init__» ⟨[.ref S, .ref z], []⟩) (GQ.FinOf prog w A R) (fun e s' => R (.error e) s') s := by
  obtain ⟨hp, g, d, tk, os⟩ := s
  have l1 := zip_no_len
  have l2 := zip_no_hint
  have other : Builtin.List.listSameRef (.ref S) (.ref z) = false := by simp [Builtin.List.listSameRef, ne]
  have p1 := p.set fun _ => #[]
  have p2 := p1.set (·.push .none)
  have p3 : Plain _ S #[] := p2.set (·.pop)
  have b1 := Heap.SameBut.update hp S (Obj.mapSeq fun _ => (#[] : Array Value))
  have b3 := (b1.trans (.update _ S (Obj.mapSeq (·.push Value.none)))).trans (.update _ S (Obj.mapSeq (·.pop)))
  have z1 : IsZip (hp.update S (Obj.mapSeq fun _ => (#[] : Array Value))) z TI TO .none := (b1.2 z ne.symm).trans hz
  have t1 : (⟨hp.update S (Obj.mapSeq fun _ => (#[] : Array Value)), g, d, tk, os⟩ : Shared).TypeIs (.ref z) "zip" := ⟨_, z1, rfl⟩
  have go := k _ b3 p3
  clear k
  obtain ⟨c, e⟩ := p
  obtain ⟨c1, e1⟩ := p1
  wp_walk using wpAny_pyIter_zip z1
  exact ⟨plainId_quiet PySem.F.plain_extend_loop _, go⟩
/-- list(z), z a zip of two lists that was made last: n objects stood ahead of it -/
theorem call_list_zip {n : Nat} {l1 l2 : Addr} {xs ys : Array Value} {Q : Value → Shared → Prop} (hh : A.handled = none) (h1 : l1 < n) (h2 : l2 < n) (hxy : xs.size = ys.size) (hn : xs.size ≤ sizeLine) (sz : s.heap.objs.size = n + 5)
    (hz : IsZip s.heap (n + 4) (n + 2) (n + 3) .none) (hTI : IsPair s.heap (n + 2) (.ref n) (.ref (n + 1))) (hTO : IsPair s.heap (n + 3) .none .none) (a1 : s.heap.IsListIter n l1 0) (a2 : s.heap.IsListIter (n + 1) l2 0) (b1 : s.heap.IsList l1 xs) (b2 : s.heap.IsList l2 ys)
    (hQ : ∀ h' us, us.toList = (pairsAt n xs.size).map Value.ref → Plain h' (n + 5) us → (∀ (j : Nat) (x y : Value), xs[j]? = some x → ys[j]? = some y → IsPair h' (n + 6 + j) x y) → (∀ (b : Nat) (o : Obj), b < n → s.heap.get? b = some o → h'.get? b = some o) → Q (.ref (n + 5)) { s with heap := h' }) :
    wpAny (model prog w) A (call (.type "list") [.ref (n + 4)]) Q E s := by
  refine callType_codes (Q₁ := fun v s1 => v = .ref s.heap.objs.size ∧ s1 = { s with heap := s.heap.push { cls := .type "list", data := .seq #[] } }) PySem.F.called_list (PySem.F.typeCall_list_1 _) PySem.F.entry_list_init (code_list_new _ ⟨rfl, rfl⟩) ?_
  rintro _ _ ⟨rfl, rfl⟩
  have new : (s.heap.push { cls := .type "list", data := .seq #[] }).get? (n + 5) = some { cls := .type "list", data := .seq #[] } := sz ▸ Heap.get?_push_size _ rfl
  have k : ∀ (b : Nat) (o : Obj), s.heap.get? b = some o → (s.heap.push { cls := .type "list", data := .seq #[] }).get? b = some o := fun b o e => Heap.get?_push_of_some _ e
  have z0 : Zl n l1 l2 xs ys 0 (s.heap.push { cls := .type "list", data := .seq #[] }) :=
    ⟨by rw [Heap.size_push, sz], k _ _ hTI, a1.at fun o e => k _ o e, a2.at fun o e => k _ o e, b1.at fun o e => k _ o e, b2.at fun o e => k _ o e, .inl ⟨k _ _ hz, k _ _ hTO⟩, fun j _ _ hj => absurd hj (Nat.not_lt_zero j)⟩
  rw [sz]
  refine ⟨⟨_, new, rfl⟩, PySem.F.args_list_init_2 _ _, list_from_zip (A := A.in1) (k _ _ hz) (show (n + 5 : Nat) ≠ n + 4 by omega) ⟨0, new⟩ fun h' sb p => ?_⟩
  refine zl_fill (A := A.in1) (s := { s with heap := s.heap.push { cls := .type "list", data := .seq #[] } }) hh h1 h2 hxy hn .none (h0 := s.heap) (fun h'' us e p' m kp => ⟨rfl, hQ h'' us e p' m kp⟩) xs.size 0 h' #[] (Nat.zero_add _) (z0.wrote h1 h2 sb) p rfl fun b o hb e => ?_
  exact (sb.2 b (show (b : Nat) ≠ n + 5 by omega)).trans (k b o e)
end
/-! ### the rule -/
section
variable {H : Hp} {n : Nat} {xs ys : List V}
/-- the list and its pairs, tracked at their places -/
def zipHp (H : Hp) (n : Nat) (xs ys : List V) : Hp := fun b => if b = n + 5 then some (.lst ((pairsAt n xs.length).map V.ref)) else if n + 6 ≤ b ∧ b < n + 6 + xs.length then (xs[b - (n + 6)]?).bind fun x => (ys[b - (n + 6)]?).map fun y => .tup [x, y] else H b
theorem zipHp_list : zipHp H n xs ys (n + 5) = some (.lst ((pairsAt n xs.length).map V.ref)) := if_pos rfl
theorem zipHp_pair {j : Nat} {x y : V} (hx : xs[j]? = some x) (hy : ys[j]? = some y) : zipHp H n xs ys (n + 6 + j) = some (.tup [x, y]) := by
  have lt := (List.getElem?_eq_some_iff.mp hx).1
  unfold zipHp
  rw [if_neg (show ¬ n + 6 + j = n + 5 by omega), if_pos (show n + 6 ≤ n + 6 + j ∧ n + 6 + j < n + 6 + xs.length by omega), Nat.add_sub_cancel_left, hx, hy]
  rfl
theorem zipHp_old {b : Addr} (hb : b < n + 5) : zipHp H n xs ys b = H b := by
  have hb : (b : Nat) < n + 5 := hb
  unfold zipHp
  rw [if_neg (show ¬ b = n + 5 from Nat.ne_of_lt hb), if_neg fun z => absurd (Nat.lt_of_lt_of_le hb (Nat.le_trans (Nat.add_le_add_left (by decide) n) z.1)) (Nat.lt_irrefl _)]
theorem zipHp_inv {b : Addr} {u : HO} (h : zipHp H n xs ys b = some u) : (b = n + 5 ∧ u = .lst ((pairsAt n xs.length).map V.ref)) ∨ (∃ (j : Nat) (x y : V), b = n + 6 + j ∧ xs[j]? = some x ∧ ys[j]? = some y ∧ u = .tup [x, y]) ∨ H b = some u := by
  unfold zipHp at h
  split at h
  · rename_i e
    exact .inl ⟨e, (Option.some.inj h).symm⟩
  · split at h
    · rename_i r
      obtain ⟨x, hx, h⟩ := Option.bind_eq_some_iff.mp h
      obtain ⟨y, hy, h⟩ := Option.map_eq_some_iff.mp h
      exact .inr (.inl ⟨b - (n + 6), x, y, (Nat.add_sub_of_le r.1).symm, hx, hy, h.symm⟩)
    · exact .inr (.inr h)
theorem zipHp_same (fresh : ∀ b : Addr, n ≤ b → H b = none) : Same H (zipHp H n xs ys) := fun b u e => by
  have lt : b < n := Nat.lt_of_not_le fun z => by rw [fresh b z] at e; cases e
  rw [zipHp_old (Nat.lt_of_lt_of_le lt (Nat.le_add_right n 5))]
  exact e
theorem pairsAt_get {m j : Nat} {t : Addr} (h : (pairsAt n m)[j]? = some t) : t = n + 6 + j := by
  rw [pairsAt, List.getElem?_map] at h
  obtain ⟨i, hi, e⟩ := Option.map_eq_some_iff.mp h
  rw [List.getElem?_range (by have := (List.getElem?_eq_some_iff.mp hi).1; rwa [List.length_range] at this)] at hi
  cases hi
  exact e.symm
theorem pairsAt_mem {m : Nat} {t : Addr} (h : t ∈ pairsAt n m) : n + 6 ≤ t := by
  obtain ⟨j, _, e⟩ := List.mem_map.mp h
  rw [← e]
  exact Nat.le_add_right _ _
theorem vals_at : ∀ l : List Addr, Vals (l.map V.ref) (l.map Value.ref)
  | [] => .nil
  | _ :: l => .cons rfl (vals_at l)
end
def rZipL (K : PySem.W.Frag) : List V → Hp → VK → Prop := fun vs H Q => ∃ a b xs ys, vs = [.ref a, .ref b] ∧ SqL K H a xs ∧ SqL K H b ys ∧ xs.length = ys.length ∧ xs.length ≤ sizeLine ∧
  ∀ (H' : Hp) (p : Addr) (ts : List Addr), Same H H' → H p = none → (∀ t ∈ ts, H t = none) → p ∉ ts → H' p = some (.lst (ts.map V.ref)) → ts.length = xs.length →
    (∀ (j : Nat) t x y, ts[j]? = some t → xs[j]? = some x → ys[j]? = some y → H' t = some (.tup [x, y])) → Q (.ref p) H'
section
variable {X : Cx} {e e2 : Expr} {ta : TA} {p p2 pos pos2 : Pos}
theorem pe_zipL (hc : X.calm = true) (hg : Gl X "list") (hm : X.mg "list" = none) (hg2 : Gl X "zip") (hm2 : X.mg "zip" = none) (hv : bootBuiltins "list" = some (.type "list") := by rfl) (ha : PA X [e, e2] ta)
    (hs : starEach [e, e2] X.env = (false, eval e X.env) :: starEach [e2] X.env := by rfl) (hpl : (backTo pos2 (starEach [e2] X.env)).any (·.1) = false := by rfl)
    (hs0 : starEach [.Call (.Name "zip" p2) [e, e2] [] pos2] X.env = (false, eval (.Call (.Name "zip" p2) [e, e2] [] pos2) X.env) :: starEach [] X.env := by rfl) :
    PE X (.Call (.Name "list" p) [.Call (.Name "zip" p2) [e, e2] [] pos2] [] pos) (tCB (rZipL X.K) ta) := by
  constructor
  intro pins s σ H Q I h
  refine wpAny_Call_Name_kw (ld_blt I hg hm hv (PyProof.Rows.callWith_type1 ?_ hs0 rfl))
  rw [hs0]
  show wpAny _ _ (spliced ((false, eval (.Call (.Name "zip" p2) [e, e2] [] pos2) X.env) :: backTo pos (starEach [] X.env))) _ _ s
  refine Calls.spliced_cons (Call_ (ld_blt I hg2 hm2 PyProof.Rows.boot_zip (PyProof.Rows.callWith_type1 (thn (ha.run pos2 pins s σ H _ I h) fun us s1 z => ?_) hs hpl)))
  obtain ⟨vs, H1, I1, rv, a, b, xs, ys, rfl, hx, hy, hxy, hlen, q⟩ := z
  obtain rfl : us = [.ref a, .ref b] := by
    rcases rv with _ | ⟨r1, _ | ⟨r2, ⟨⟩⟩⟩
    cases r1
    cases r2
    rfl
  clear rv
  obtain ⟨ux, vx, px, _⟩ := I1.list hx
  obtain ⟨uy, vy, py, _⟩ := I1.list hy
  have fresh : ∀ b : Addr, s1.heap.objs.size ≤ b → H1 b = none := fun b hb => I1.hok.fresh hb
  generalize hn : s1.heap.objs.size = n at fresh
  refine call_zip_2 px.isList py.isList fun g z1 t1 t2 a1 a2 sz hk => ?_
  refine Calls.spliced_nil ?_
  rw [hn] at z1 t1 t2 a1 a2 sz ⊢
  have lx : ux.toArray.size = xs.length := by rw [List.size_toArray, vx.length]
  have ly : uy.toArray.size = ys.length := by rw [List.size_toArray, vy.length]
  refine call_list_zip (s := { s1 with heap := g }) (I1.ok.hd hc) (hn ▸ px.lt) (hn ▸ py.lt) (by rw [lx, ly, hxy]) (by rw [lx]; exact hlen) sz z1 t1 t2 a1 a2 (px.isList.at fun o e => hk _ o e) (py.isList.at fun o e => hk _ o e) fun h' ls els pl prs kp => ?_
  rw [lx] at els
  have keep : ∀ (b : Nat) (o : Obj), s1.heap.get? b = some o → h'.get? b = some o := fun b o e => kp b o (hn ▸ Heap.lt_size e) (hk b o e)
  have sm := zipHp_same (xs := xs) (ys := ys) fresh
  refine ⟨.ref (n + 5), zipHp H1 n xs ys, I1.call' (ch := []) rfl ?_ ?_ I1.bare (fun b z => by simp at z), rfl, q _ _ (pairsAt n xs.length) sm (fresh _ (Nat.le_add_right n 5)) (fun t ht => fresh t (Nat.le_trans (Nat.le_add_right n 6) (pairsAt_mem ht))) (fun z => absurd (pairsAt_mem z) (by omega)) zipHp_list (by rw [pairsAt, List.length_map, List.length_range]) fun j t x y ht hx hy => ?_⟩
  · refine ⟨fun b o e _ _ _ => keep b o e, fun b o e _ _ _ => ⟨o.slots, keep b o e⟩, fun b o e no _ => ?_, fun b o e _ => ⟨o, keep b o e⟩, fun b xs e => sm b _ e, fun b o u e => sm b _ e, fun b ps e => ⟨#[], by rw [sm b _ e]; simp⟩⟩
    rw [zipHp_old (Nat.lt_of_lt_of_le (hn ▸ Heap.lt_size e) (Nat.le_add_right n 5))]
    exact no
  · intro b u e
    rcases zipHp_inv e with ⟨rfl, rfl⟩ | ⟨j, x, y, rfl, hx, hy, rfl⟩ | e
    · obtain ⟨c, e⟩ := pl
      refine ⟨by rw [List.length_map, pairsAt, List.length_map, List.length_range]; exact hlen, ls.toList, c, els ▸ vals_at _, by rw [Array.toArray_toList]; exact e⟩
    · obtain ⟨u1, g1, r1⟩ := vx.get hx
      obtain ⟨u2, g2, r2⟩ := vy.get hy
      exact ⟨by show 2 ≤ sizeLine; decide, [u1, u2], .cons r1 (.cons r2 .nil), _, prs j u1 u2 (by rw [List.getElem?_toArray]; exact g1) (by rw [List.getElem?_toArray]; exact g2), rfl, _, rfl⟩
    · exact (I1.hok b u e).stay (fun d v _ y => keep d v y) (fun d y => sm d _ y) fun d xs y => sm d _ y
  · rw [pairsAt_get ht]
    exact zipHp_pair hx hy
end
/-- many new at once -/
theorem Fx.many {Hb H H' : Hp} (s : Same Hb H) (m : Same H H') (P : Addr → Bool) (hP : ∀ b, P b = true → H b = none) : Fx Hb H (fun b => if P b = true then H' b else Hb b) H' := by
  refine ⟨fun b o e => ?_, fun b o e => ?_, m, fun b h1 h2 => ?_⟩
  · have : P b ≠ true := fun z => by
      have h1 := hP b z
      rw [s b o e] at h1
      cases h1
    show (if P b = true then H' b else Hb b) = some o
    rw [if_neg this]
    exact e
  · by_cases q : P b = true
    · simpa [q] using e
    · simp only [q] at e
      exact m b o (s b o (by simpa using e))
  · have : P b ≠ true := fun z => h2 (hP b z)
    show (if P b = true then H' b else Hb b) = none
    rw [if_neg this]
    exact h1
section
variable {K : PySem.W.Frag} {δ : KX.Env} {ow : Own} {ta : TA} {ds es : List D}
def zipD (ds es : List D) : List D := (ds.zip es).map fun p => .tup [p.1, p.2]
theorem repl_zip {H : Hp} : ∀ {ts : List Addr} {xs ys : List V} {ds es : List D}, RepL K H xs ds → RepL K H ys es → ts.length = xs.length → xs.length = ys.length →
    (∀ (j : Nat) t x y, ts[j]? = some t → xs[j]? = some x → ys[j]? = some y → H t = some (.tup [x, y])) → RepL K H (ts.map V.ref) (zipD ds es)
  | [], _, _, ds, es, r1, r2, e1, e2, h => by
    have : ds = [] := List.length_eq_zero_iff.mp (by rw [← r1.len, ← e1]; rfl)
    subst this
    exact RepL.nil
  | t :: ts, [], _, _, _, _, _, e1, _, _ => by cases e1
  | t :: ts, x :: xs, [], _, _, _, _, _, e2, _ => by cases e2
  | t :: ts, x :: xs, y :: ys, ds, es, r1, r2, e1, e2, h => by
    cases ds with
    | nil => rw [RepL] at r1; cases r1
    | cons d ds =>
      cases es with
      | nil => rw [RepL] at r2; cases r2
      | cons e es =>
        rw [RepL] at r1 r2
        obtain ⟨_, _, q1, q2, q3⟩ := r1
        obtain ⟨_, _, q4, q5, q6⟩ := r2
        cases q1
        cases q4
        refine RepL.cons (rep_tup (sqT_of (h 0 t x y rfl rfl rfl)) (RepL.cons q2 (RepL.cons q5 RepL.nil))) ?_
        exact repl_zip q3 q6 (by simpa using e1) (by simpa using e2) fun j t' x' y' a1 a2 a3 => h (j + 1) t' x' y' (by simpa using a1) (by simpa using a2) (by simpa using a3)
theorem rd_zipL (hl : ds.length = es.length) (hn : ds.length ≤ 100000) : RD K (rZipL K) [.lst ds, .lst es] (.lst (zipD ds es)) := fun Hb H vs Q s r k => by
  obtain ⟨v, w, e1, e2, e3⟩ := repl2 r
  rw [Rep] at e2
  rw [Rep] at e3
  obtain ⟨a, us, g1, g2, g3⟩ := e2
  obtain ⟨b, zs, g4, g5, g6⟩ := e3
  subst g1 g4 e1
  refine ⟨a, b, us, zs, rfl, sqL_of (s _ _ g2), sqL_of (s _ _ g5), by rw [g3.len, g6.len, hl], by rw [g3.len]; exact size_ok hn, fun H' p ts m hp hts hpt hL hlen hpairs => ?_⟩
  have f := Fx.many s m (fun b => decide (b = p) || ts.contains b) fun b q => by
    rcases (Bool.or_eq_true _ _).mp q with q | q
    · rw [of_decide_eq_true q]; exact hp
    · exact hts b (by simpa using q)
  refine k _ _ H' f (rep_lst (a := p) (vs := ts.map V.ref) (by simp [hL]) ?_)
  refine repl_zip (g3.mono f.bn) (g6.mono f.bn) hlen (by rw [g3.len, g6.len, hl]) fun j t x y a1 a2 a3 => ?_
  have : t ∈ ts := List.mem_of_getElem? a1
  simp [this]
  exact hpairs j t x y a1 a2 a3
end
end KX
/-! Set comprehensions of ints: one rule, told by what stands after i items. -/
namespace KX
open PySem PySem.Spec PyProof.Rows L2 PpSet
/-- the set's state behind add(c) -/
def more (w : World) (D : Addr) (S : Int → Bool) (m : Nat) (c : Int) : HO := SetO w D (fun j => S j || decide (j = c)) (if S c = true then m else m + 1)
/-- one item x comes, D the new set, σ0 the slots between the turns: go on with G -/
def tTurn (w : World) (g : TG) (tt : TT) (te : TE) (vs : List Nat) (σ0 : L2.St) (D : Addr) (x : V) (H : Hp) (G : Hp → Prop) : Prop :=
  g x σ0 H fun σ2 H2 => L2.wipe σ2 vs = σ0 ∧ tt σ2 H2 fun b H3 => if b = true then te σ2 H3 fun y H4 => ∃ (c : Int) (S : Int → Bool) (m : Nat), y = .int c ∧ H4 D = some (SetO w D S m) ∧ m + 1 < scanBound ∧ G (upd H4 D (more w D S m c)) else G H3
/-- {te for g in wi if tt}: P i stands behind i items of n -/
def tSI (w : World) (wi : TI) (g : TG) (tt : TT) (te : TE) (vs : List Nat) : TE := fun σ H Q => wi σ H fun J H1 => ∀ D, H1 D = none → ∃ (n : Nat) (P : Nat → Hp → Prop), P 0 (upd H1 D (SetO w D (fun _ => false) 0)) ∧
  (∀ i H', i < n → P i H' → J.go i H' ∧ ∀ x H2, J.yld i H' x H2 → tTurn w g tt te vs (L2.wipe σ vs) D x H2 (P (i + 1))) ∧ ∀ H', P n H' → J.stop n H' ∧ Q (.ref D) H'
section
variable {B : Cx} {σ : L2.St} {H : Hp} {s : Shared} {tg elt iter : Expr} {ifs : List Expr} {scope : Scope} {pos : Pos} {J : It} {fp : List Addr} {it D : Addr} {tn : Nat → Heap → Prop} {g : TG} {tt : TT} {te : TE} {vs : List Nat}
/-- nothing is raised within a block -/
theorem thnB {α : Type} {t : Sem α} {Q Q' : α → Shared → Prop} {E : Value → Shared → Prop} (no : ∀ e s, ¬ B.xe e s) (h : wpAny (model B.prog B.w) B.A t Q B.xe s) (k : ∀ a s, Q a s → Q' a s) : wpAny (model B.prog B.w) B.A t Q' E s :=
  wpAny_mono h k fun e s z => absurd z (no e s)
/-- D.add(c) -/
theorem add_int {pins : List (Addr × Obj)} {S : Int → Bool} {m : Nat} {c : Int} {u : Value} {E : Value → Shared → Prop} {Q : Value → Shared → Prop} (I : Inv B pins σ H s) (hD : H D = some (SetO B.w D S m)) (ru : RelV (.int c) u) (room : m + 1 < scanBound)
    (q : ∀ s', Inv B pins σ (upd H D (more B.w D S m c)) s' → Q .none s') : wpAny (model B.prog B.w) B.A (call (.builtin "set.add") [.ref D, u]) Q E s := by
  obtain ⟨tk, rfl⟩ := ru
  refine setR_add (setO_get I hD) room fun h' sb nw => q _ (I.write (e := D) (by rw [hD]; exact True.intro) (.inl rfl) (fun b o hb e => (sb.2 b hb).trans e) ?_ (setO_new nw))
  obtain ⟨o, _, _, _, e, _⟩ := nw
  exact ⟨o, e⟩
/-- where a block stands between two turns: the iterator is behind i items, its records are nobody's -/
structure Betw (B : Cx) (fp : List Addr) (tn : Nat → Heap → Prop) (σ0 : L2.St) (i : Nat) (H : Hp) (s : Shared) : Prop where
  inv : Inv B [] σ0 H s
  st : tn i s.heap
  off : ∀ b ∈ fp, H b = none
theorem Betw.own {i : Nat} (b : Betw B fp tn σ i H s) (hex : ∀ c ∈ fp, c ∈ B.ex) (hpn : B.pn = []) : ∀ c ∈ fp, FpOk B [] H c := fun c hc =>
  have q := b.inv.ok.exf c (hex c hc)
  ⟨b.off c hc, q.1, b.inv.ok.exfs c (hex c hc), .inl (hex c hc), q.2, fun p hp => by rw [hpn] at hp; simp at hp⟩
/-- from within a turn back to between two -/
theorem Betw.back {i : Nat} {σ0 : L2.St} {s' : Shared} {H' : Hp} (T : Turn B.prog B.w B.K tg J fp it tn) (b : Betw B fp tn σ0 i H s) (I : Inv B ([] ++ pinsAt fp s.heap) σ H' s') (hw : L2.wipe σ vs = σ0) : Betw B fp tn σ0 i H' s' := by
  have held : ∀ c ∈ fp, ∀ o, s.heap.get? c = some o → s'.heap.get? c = some o ∧ H' c = none := fun c hc o e => by
    have q := I.pin (c, o) (List.mem_append_right _ (List.mem_append_right _ (mem_pinsAt hc e)))
    exact ⟨q.1, q.2.1⟩
  refine ⟨I.unpinned.weak (by rw [← hw, wipe_length]) fun j v e => (wipe_some (hw ▸ e)).1, T.keep _ _ _ b.st fun c hc o e => (held c hc o e).1, fun c hc => ?_⟩
  obtain ⟨o, e, _⟩ := T.obj _ _ b.st c hc
  exact (held c hc o e).2
/-- all turns -/
theorem si_turns {n : Nat} {P : Nat → Hp → Prop} {σ0 : L2.St} {R : Result → Shared → Prop} (T : Turn B.prog B.w B.K tg J fp it tn) (pg : PG B tg g) (pt : PTs B ifs tt) (pe : PE B elt te) (hc : B.calm = true) (no : ∀ e s, ¬ B.xe e s) (hex : ∀ c ∈ fp, c ∈ B.ex) (hpn : B.pn = [])
    (go : ∀ i H', i < n → P i H' → J.go i H' ∧ ∀ x H2, J.yld i H' x H2 → tTurn B.w g tt te vs σ0 D x H2 (P (i + 1))) (stop : ∀ H', P n H' → J.stop n H')
    (fin : ∀ s' H', Inv B [] σ0 H' s' → P n H' → R (.ok .next) s') (b : Betw B fp tn σ0 0 H s) (p : P 0 H) :
    codeAny (model B.prog B.w) B.A (.compLoop (.SetComp elt [⟨tg, iter, ifs, 0⟩] scope pos) 0 (.ref it) (.ref D) B.env) R s := by
  refine compLoopS_any (fun left s' => ∃ i H', left + i = n ∧ Betw B fp tn σ0 i H' s' ∧ P i H') ?_ n ⟨0, H, rfl, b, p⟩
  rintro left s1 ⟨i, H1, rfl, b1, p1⟩
  have f1 := b1.own hex hpn
  cases left with
  | zero =>
    rw [Nat.zero_add] at stop fin
    refine wpAny_mono (T.done B rfl rfl rfl hc i [] s1 _ H1 (fun _ _ => False) b1.inv f1 b1.st (stop H1 p1)) (fun r s2 z => ?_) fun _ _ z => z.elim
    rw [z.1]
    exact fin s2 H1 z.2 p1
  | succ left =>
    obtain ⟨ahead, each⟩ := go i H1 (by omega) p1
    refine wpAny_mono (T.item B rfl rfl rfl hc i [] s1 _ H1 (fun _ _ => False) b1.inv f1 b1.st ahead) (fun r s2 z => ?_) fun _ _ z => z.elim
    obtain ⟨u, rfl, z⟩ := z
    refine wpAny_mono z (fun _ s3 z => ?_) fun _ _ z => z.elim
    obtain ⟨x, H3, I3, rx, y, st3, off3⟩ := z
    have b3 : Betw B fp tn σ0 (i + 1) H3 s3 := ⟨I3, st3, off3⟩
    have next : ∀ {σ' : L2.St} {H' : Hp} {s' : Shared}, Inv B ([] ++ pinsAt fp s3.heap) σ' H' s' → L2.wipe σ' vs = σ0 → P (i + 1) H' → ∃ m, m < left + 1 ∧ ∃ j H', m + j = left + 1 + i ∧ Betw B fp tn σ0 j H' s' ∧ P j H' := fun {σ' H' s'} I' hw p' =>
      ⟨left, Nat.lt_succ_self _, i + 1, H', by omega, b3.back T I' hw, p'⟩
    refine thnB no (pg.run _ s3 σ0 H3 x u _ (I3.pinned (b3.own hex hpn) (T.obj _ _ st3)) rx (each x H3 y)) fun _ s4 z => ?_
    obtain ⟨σ4, H4, I4, hw, z⟩ := z
    refine thnB no (pt.run _ s4 σ4 H4 _ I4 z) fun ok s5 z => ?_
    obtain ⟨H5, I5, z⟩ := z
    split at z
    · rename_i yes
      rw [if_pos yes]
      refine thnB no (pe.run _ s5 σ4 H5 _ I5 z) fun v s6 z => ?_
      obtain ⟨d, H6, I6, rd, c, S, m, rfl, hD, room, z⟩ := z
      exact add_int I6 hD rd room fun s7 I7 => next I7 hw z
    · rename_i not
      rw [if_neg not]
      exact next I5 hw z
end
section
variable {X : Cx} {pins : List (Addr × Obj)} {σ : L2.St} {H : Hp} {s : Shared} {tg elt iter : Expr} {ifs : List Expr} {scope : Scope} {own : List (PySem.Str × Nat)} {pos : Pos} {fp : List Addr} {wi : TI} {g : TG} {tt : TT} {te : TE}
/-- the new set's record -/
abbrev emptySet (w : World) : Obj := { cls := .type "set", dict := none, data := .set #[] 0 (.fresh 0 0 (!w.params.followText "set-order")) }
theorem set_laid (I : Inv X pins σ H s) : Inv X pins σ (upd H s.heap.objs.size (SetO X.w s.heap.objs.size (fun _ => false) 0)) { s with heap := s.heap.push (emptySet X.w) } :=
  I.laid (t' := s.toks) (fun _ _ e => Heap.get?_push_of_some _ e) (Nat.le_refl _) (setO_new (setR_fresh X.w))
/-- the block's end: back in the frame around it -/
theorem block_end {cl : List (PySem.Str × Addr)} {s' : Shared} {H' : Hp} {σ0 : L2.St} {Q : VK} {d : V} {u : Value} (I : Inv X pins σ H s) (hf : ∀ b ∈ fp, FpOk X pins H b) (I' : Inv (X.blk s H scope (compEnvC scope cl s.heap.objs.size X.env) fp) [] σ0 H' s')
    (rd : RelV d u) (q : Q d H') : compPost (model X.prog X.w) X.A X.xe none (EP X pins σ Q) u s.heap.objs.size (.ok .next) s' := by
  have back : Inv X pins σ H' s' := I.call' (ch := fp) I'.os I'.base I'.hok I'.bare fun b hb => by
    obtain ⟨_, a1, _, a2, a3, a4⟩ := hf b hb
    exact ⟨a2, a1, a3, a4⟩
  obtain ⟨_, c1, _, c2, c3, c4⟩ := I.fpOk (H' := H') (Nat.le_refl _) I'.free
  obtain ⟨m, ns, _⟩ := I'.loc
  exact ⟨m, ns, fun h' sb => ⟨d, H', back.turned (t' := s'.toks) (fun b o hb e => (sb.2 b hb).trans e) I'.free c1 c2 c3 c4, rd, q⟩⟩
/-- in every block of the comprehension's scope -/
abbrev InBlk (X : Cx) (scope : Scope) (p : Cx → Prop) : Prop := ∀ s H C cl fp, p (X.blk s H scope (compEnvC scope cl C X.env) fp)
/-- as a value -/
theorem pe_sci (hc : X.calm = true) (hN : X.N.Nodup) (hi : PI X tg iter wi) (ok : BlkOk X.N X.env.scope scope own)
    (hg : InBlk X scope fun B => PG B tg g) (ht : InBlk X scope fun B => PTs B ifs tt) (he : InBlk X scope fun B => PE B elt te) (hs : ∀ x, foldedSetIterable iter X.env x = pure x := by intro _; rfl) :
    PE X (.SetComp elt [⟨tg, iter, ifs, 0⟩] scope pos) (tSI X.w wi g tt te (own.map (·.2))) := by
  constructor
  intro pins s σ H Q I h
  have cl : closureFor scope X.env = pure (cloFrom X.env.cells scope.names []) := closure_ok fun y hy e => (ok.free y hy e).elim (fun z => I.ok.has _ (.inl z)) fun z => I.ok.has _ (.inr z)
  rw [eval_SetComp]
  refine wpAny_comprehension_free (use := none) rfl hs cl ok.kind (fun y hy e => (ok.uniq y hy).trans (congrArg some e)) (thn (hi.run pins s σ H _ I h) fun xv s1 z => thn z fun itv s2 z => ?_)
  obtain ⟨it, fp, tn, J, H2, rfl, I2, T, st2, f2, z⟩ := z
  obtain ⟨n, P, p0, go, stop⟩ := z s2.heap.objs.size (I2.hok.fresh (Nat.le_refl _))
  have I3 := set_laid I2
  have young : ∀ b ∈ fp, b < s2.heap.objs.size := fun b hb => let ⟨_, e, _⟩ := T.obj _ _ st2 b hb; Heap.lt_size e
  have f3 : ∀ b ∈ fp, FpOk X pins (upd H2 s2.heap.objs.size (SetO X.w s2.heap.objs.size (fun _ => false) 0)) b := fun b hb => ⟨(upd_ne (Nat.ne_of_lt (young b hb))).trans (f2 b hb).1, (f2 b hb).2⟩
  have I4 := block_start I3 ok hN fun b hb => ⟨f3 b hb, Nat.lt_trans (young b hb) (by rw [Heap.size_push]; exact Nat.lt_succ_self _)⟩
  refine newSet_ok (newEnv_comp ?_)
  have st4 := T.keep _ _ _ st2 fun b _ o e => pushCells_keeps scope.names _ _ _ (Heap.get?_push_of_some { cls := .type "dict", data := .dict #[] } (Heap.get?_push_of_some (emptySet X.w) e))
  have turns := si_turns (B := X.blk { s2 with heap := s2.heap.push (emptySet X.w) } (upd H2 s2.heap.objs.size (SetO X.w s2.heap.objs.size (fun _ => false) 0)) scope
      (compEnvC scope (cellsFrom ((s2.heap.push (emptySet X.w)).objs.size + 1) scope.names (cloFrom X.env.cells scope.names [])) (s2.heap.push (emptySet X.w)).objs.size X.env) fp) (iter := iter) (scope := scope) (pos := pos) (vs := own.map (·.2)) (n := n) (P := P) (D := s2.heap.objs.size) (R := compPost (model X.prog X.w) X.A X.xe none (EP X pins σ Q) (.ref s2.heap.objs.size) (s2.heap.push (emptySet X.w)).objs.size) T (hg _ _ _ _ fp) (ht _ _ _ _ fp) (he _ _ _ _ fp) hc (fun _ _ z => z) (fun c h => h) rfl go (fun H' p => (stop H' p).1)
    (fun s' H' I' p => block_end (d := .ref s2.heap.objs.size) I3 f3 I' rfl (stop H' p).2) ⟨I4, st4, fun b hb => (f3 b hb).1⟩ p0
  exact codeAny_compStart_set turns (T.self X.A 0 _ _ _ st4 turns)
end
end KX
namespace KX
open PySem PySem.Spec PyProof.Rows L2
/-! sorted of a set comprehension of ints -/
section
variable {K : PySem.W.Frag} {δ : KX.Env} {ow : Own} {wd : World} {wi : TI} {g : TG} {tt : TT} {te : TE} {n : Nat} {item : Nat → D}
theorem ed_sortSet {vs : List Nat} (he : EI K wi δ ow n item) (hw : GW g vs) (ho : ∀ v ∈ vs, offO v ow = true) (hn : n < 60) (f : Nat → Bool) (v : Nat → Int)
    (hs : ∀ i, i < n → ∃ δ', EG K g (item i) (wipeD δ vs) δ' ow ∧ ET K tt δ' ow (f i) ∧ (f i = true → ED K te δ' ow (.int (v i)))) :
    ED K (tCB (rSortedSet wd) (tCons (tSI wd wi g tt te vs) tNil)) δ ow (.lst ((ssort (((List.range n).filter f).map v)).map D.int)) := fun H0 Hb H σ Q s k => by
  refine he H0 Hb H σ _ s fun J Hn H2 f1 src D0 hD => ?_
  obtain ⟨G, Y, hwk, hG, hY⟩ := src.ex
  have s1 := s.fx f1
  have hnD : Hn D0 = none := f1.n2.free hD
  refine ⟨n, fun i H' => ∃ Hb' S m, Same Hn Hb' ∧ Same Hb' H' ∧ Same H2 H' ∧ (∀ b, Hn b = none → H2 b ≠ none → Hb' b = none) ∧ Hb' D0 = none ∧ H' D0 = some (SetO wd D0 S m) ∧ m ≤ i ∧ ∀ j, S j = true ↔ j ∈ ((List.range i).filter f).map v, ?_, ?_, ?_⟩
  · exact ⟨Hn, _, 0, Same.refl _, f1.n2.trans (same_new hD), same_new hD, fun _ h _ => h, hnD, upd_same, Nat.le_refl _, fun j => by simp⟩
  · rintro i Hx hi ⟨Hb', S, m, a1, a2, a3, a4, a5, a6, a7, a8⟩
    have on := hG Hx (a1.trans a2)
    refine ⟨hwk.goes i Hx hi on, fun x Hy y => ?_⟩
    have y := hwk.yields i Hx x Hy hi on y
    obtain ⟨Hm, f2, hr⟩ := hY i Hb' Hx x Hy hi a1 a2 y
    obtain ⟨δ', hg, ht, hv⟩ := hs i hi
    have fx : Fx Hn H2 Hb' Hx := ⟨a1, a2, a3, a4⟩
    have s2 := ((s1.fx fx).fx f2).wipe ho
    refine hw.at_ (hg H0 Hm Hy _ x _ s2 hr fun σ2 s3 => ?_)
    refine ht H0 Hm Hy σ2 _ s3 fun Hk H3 f3 => ?_
    have g0 : Hm D0 = none := f2.df D0 a5 (by rw [a6]; intro z; cases z)
    have g1 : Hy D0 = some (SetO wd D0 S m) := f2.s _ _ a6
    have g2 : Hk D0 = none := f3.df D0 g0 (by rw [g1]; intro z; cases z)
    have g3 : H3 D0 = some (SetO wd D0 S m) := f3.s _ _ g1
    have f4 := (fx.trans f2).trans f3
    cases q : f i with
    | true =>
      refine iteT (hv q H0 Hk H3 σ2 _ (s3.fx f3) fun z Hj H4 f5 r5 => ?_)
      rw [Rep] at r5
      have g4 : Hj D0 = none := f5.df D0 g2 (by rw [g3]; intro z; cases z)
      refine ⟨v i, S, m, r5, f5.s _ _ g3, by show m + 1 < scanBound; unfold scanBound; omega, Hj, _, _, f4.bn.trans f5.bn, ?_, ?_, (f4.trans f5).df, g4, upd_same, ?_, fun j => ?_⟩
      · intro b x e
        rw [upd_ne (ne_of_none e g4)]
        exact f5.n2 b x e
      · intro b x e
        rw [upd_ne (ne_of_none e hD)]
        exact (f4.trans f5).s b x e
      · split <;> omega
      · rw [Bool.or_eq_true, decide_eq_true_eq, a8, List.range_succ, List.filter_append, List.map_append, List.filter_cons, if_pos q]
        simp
    | false =>
      refine iteF ⟨Hk, S, m, f4.bn, f4.n2, f4.s, f4.df, g2, g3, by omega, fun j => ?_⟩
      rw [a8, List.range_succ, List.filter_append, List.map_append, List.filter_cons, if_neg (by rw [q]; decide)]
      simp
  · rintro H' ⟨Hb', S, m, a1, a2, a3, a4, a5, a6, a7, a8⟩
    refine ⟨hwk.stops H' (hG H' (a1.trans a2)), D0, S, m, rfl, a6, by omega, fun ns p hs1 hs2 hl hp => ?_⟩
    have e : ns = ssort (((List.range n).filter f).map v) := sorted_uniq hs1 (ssort_sorted _) fun k => by rw [hs2, a8, mem_ssort]
    have hbp : Hb' p = none := a2.free hp
    have hp2 : H2 p = none := a3.free hp
    have fx : Fx Hn H2 Hb' H' := ⟨a1, a2, a3, a4⟩
    have f6 := Fx.new a2 (.lst (ns.map V.int)) hp
    rw [← e] at k
    exact k _ _ _ ((f1.trans fx).trans f6) (rep_lst upd_same (repl_of_int ns))
end
end KX
/-! sorted of a list of tuples of ints. -/
namespace KX
open PySem PySem.Spec PyProof.Rows L2
open PySem.W (dataLe dataLt EachIs AllAlike Sortable)
def encT (b : List Int) : PyData := .tuple (b.map .int)
theorem le_tups : dataLe false encT = fun p q => decide (p ≤ q) := by
  funext p q
  show (!dataLt (.tuple (q.map .int)) (.tuple (p.map .int))) = _
  rw [PySem.W.dataLt_tuple]
  show (!PySem.W.rowLt (q.map .int) (p.map .int)) = _
  rw [PySem.W.dataLt_ints]
  by_cases h : q < p
  · have h' : ¬ p ≤ q := fun r => List.not_lt.mpr r h
    simp [h, h']
  · have h' : p ≤ q := List.not_lt.mp h
    simp [h, h']
inductive Pr2 (F : V → List Int → Prop) : List V → List (List Int) → Prop
  | nil : Pr2 F [] []
  | cons {v b vs bs} : F v b → Pr2 F vs bs → Pr2 F (v :: vs) (b :: bs)
/-- v is a tuple of the ints b -/
def TupI (K : PySem.W.Frag) (H : Hp) (v : V) (b : List Int) : Prop := ∃ t, v = .ref t ∧ SqT K H t (b.map V.int)
def rSortT (K : PySem.W.Frag) : List V → Hp → VK → Prop := fun vs H Q => ∃ (F : V → List Int → Prop) (a : Addr) (xs : List V) (bs : List (List Int)), vs = [V.ref a] ∧ SqL K H a xs ∧ (∀ v b, F v b → TupI K H v b) ∧ Pr2 F xs bs ∧ (∀ b ∈ bs, b ≠ []) ∧ bs.length ≤ 100000 ∧
  ∀ ys p, Pr2 F ys (sortT bs) → H p = none → Q (.ref p) (upd H p (.lst ys))
section
variable {X : Cx}
theorem tup_depth : ∀ b : List Int, (encT b).depth ≤ 1 := fun b => by
  unfold encT
  rw [PyData.depth, PySem.W.depth_ints]
  exact Nat.le_refl _
theorem cr_sortT (hu : X.A.units + 4 < cLine) : CallR X (.builtin "sorted") (rSortT X.K) := by
  intro pins s σ H vs us Q I r h
  obtain ⟨F, a, xs, bs, rfl, hs, hF, hx, hne, hlen, q⟩ := h
  obtain ⟨its, rv, hl, hz⟩ := I.list hs
  obtain ⟨u, rfl, ru⟩ := vals1 r
  obtain rfl : u = Value.ref a := ru
  have intsR : ∀ {b : List Int} {us : List Value}, Vals (b.map V.int) us → ReadsAll s.heap us (b.map .int) [] := by
    intro b
    induction b with
    | nil => intro us r; cases r; exact .nil
    | cons i b ih =>
      intro us r
      cases r with
      | cons h1 h2 =>
        obtain ⟨t, rfl⟩ := h1
        exact ReadsAll.cons (as := []) (bs := []) (.int i t) (ih h2)
  have R0 : ∀ {xs : List V} {bs : List (List Int)} {us : List Value}, Pr2 F xs bs → Vals xs us → EachIs (fun u b => (∃ t, u = Value.ref t ∧ F (.ref t) b) ∧ Reads s.heap u (encT b) []) us bs := by
    intro xs bs us p
    induction p generalizing us with
    | nil => intro r; cases r; exact .nil
    | cons hf _ ih =>
      intro r
      cases r with
      | cons h1 h2 =>
        obtain ⟨t, rfl, hq⟩ := hF _ _ hf
        cases h1
        refine .cons ⟨⟨t, rfl, hf⟩, ?_⟩ (ih h2)
        obtain ⟨us2, r2, pl, _⟩ := I.tuple hq
        obtain ⟨o, ho, hc, n, hd⟩ := pl
        refine Reads.tuple (o := o) (vs := us2.toArray) (n := n) ho hc hd ?_
        rw [List.toList_toArray]
        exact intsR r2
  have E0 := R0 hx rv
  have hlv := hl.isList
  refine PySem.W.sorted_data (enc := encT) (R := fun u b => ∃ t, u = Value.ref t ∧ F (.ref t) b) hlv (E0.mono fun _ _ z => z.1) (E0.mono fun _ _ z => ⟨[], z.2⟩) (.of fun b b' => PySem.W.alike_ints b b') (.inl fun d hd => ?_) (size_ok hlen) (fun b _ => ?_) fun out hol ho => ?_
  · obtain ⟨b, hb, rfl⟩ := List.mem_map.mp hd
    cases b with
    | nil => exact absurd rfl (hne _ hb)
    | cons i b => exact ⟨.int i, b.map .int, rfl⟩
  · have := tup_depth b
    have h2 := hu
    omega
  · rw [le_tups] at ho
    have hd : H (s.heap.objs.size + 1) = none := I.hok.fresh (Nat.le_succ _)
    have kp : ∀ b o, s.heap.get? b = some o → (PyProof.Rows.sortedAll s.heap its out.toArray).get? b = some o := fun b o e => PyProof.Rows.sortedAll_old e
    obtain ⟨e, he⟩ := PyProof.Rows.sortedAll_at s.heap its out.toArray
    have back : ∀ {out : List Value} {bs : List (List Int)}, EachIs (fun u b => ∃ t, u = Value.ref t ∧ F (.ref t) b) out bs → ∃ ys, Pr2 F ys bs ∧ Vals ys out := by
      intro out bs p
      induction p with
      | nil => exact ⟨[], .nil, .nil⟩
      | cons h1 _ ih =>
        obtain ⟨ys, a1, a2⟩ := ih
        obtain ⟨t, rfl, h2⟩ := h1
        exact ⟨.ref t :: ys, .cons h2 a1, .cons rfl a2⟩
    obtain ⟨ys, p1, p2⟩ := back ho
    refine ⟨.ref _, upd H (s.heap.objs.size + 1) (.lst ys), I.laid (t' := s.toks) kp (Nat.le_succ _) ⟨?_, out, e, p2, he⟩, rfl, q ys _ p1 hd⟩
    rw [p2.length, hol]
    exact size_ok hlen
end
/-! data -/
section
variable {K : PySem.W.Frag} {δ : KX.Env} {ow : Own} {ta tb te : TE}
def rowD (b : List Int) : D := .tup (b.map .int)
theorem pr2_of {Hb : Hp} : ∀ {vs : List V} {bs : List (List Int)}, RepL K Hb vs (bs.map rowD) → Pr2 (TupI K Hb) vs bs := by
  intro vs bs
  induction bs generalizing vs with
  | nil => intro h; rw [List.map_nil, RepL] at h; rw [h]; exact .nil
  | cons b bs ih =>
    intro h
    rw [List.map_cons, RepL] at h
    obtain ⟨v, r, rfl, e2, e3⟩ := h
    unfold rowD at e2
    rw [Rep] at e2
    obtain ⟨a, us, rfl, h1, h2⟩ := e2
    rw [repl_int h2] at h1
    exact .cons ⟨a, rfl, h1⟩ (ih e3)
theorem of_pr2 {Hb : Hp} {vs : List V} {bs : List (List Int)} (p : Pr2 (TupI K Hb) vs bs) : RepL K Hb vs (bs.map rowD) := by
  induction p with
  | nil => exact RepL.nil
  | cons h1 _ ih =>
    obtain ⟨t, e, h2⟩ := h1
    subst e
    exact RepL.cons (rep_tup h2 (repl_of_int _)) ih
theorem rd_sortT {bs : List (List Int)} (hne : ∀ b ∈ bs, b ≠ []) (hl : bs.length ≤ 100000) : RD K (rSortT K) [.lst (bs.map rowD)] (.lst ((sortT bs).map rowD)) := fun Hb H vs Q s r k => by
  obtain ⟨v, e1, e2⟩ := repl1 r
  rw [Rep] at e2
  obtain ⟨a, us, g1, g2, g3⟩ := e2
  subst g1 e1
  refine ⟨TupI K Hb, a, us, bs, rfl, sqL_of (s _ _ g2), fun v b ⟨t, e, h⟩ => ⟨t, e, Same.tup s h⟩, pr2_of g3, hne, hl, fun ys p h hp => ?_⟩
  have f := Fx.new s (.lst ys) hp
  exact k _ _ _ f (rep_lst upd_same ((of_pr2 h).mono f.bn))
end
end KX
/-! == and != of tuples of Worths that are equal; a Worth in a list of them. -/
namespace KX
open PySem PySem.Spec PyProof.Rows L2
open PySem.AutoSeq1 (wpAny_loadPart')
open MeetsSeq MeetsSeq2 MeetsSeq3 SeqRoads2
section
variable {prog : Program} {w : World} {A : Around}
/-- what stands in two sequences at place i is seen to be equal; J goes on by one -/
abbrev Alike (prog : Program) (w : World) (A : Around) (E : Value → Shared → Prop) (us vs : List Value) (J : Nat → Shared → Prop) : Prop :=
  ∀ (i : Nat) (u v : Value) (s : Shared), us[i]? = some u → vs[i]? = some v → J i s → wpAny (model prog w) A (eqBool u v) (fun r s' => r = true ∧ J (i + 1) s') E s
/-- the loop of a tuple's comparison, where all pairs are alike: it comes to its end -/
theorem alike_loop {E : Value → Shared → Prop} {us vs : List Value} {J : Nat → Shared → Prop} {β : Type} {b : β} {f : Value × Value → β → Sem (ForInStep β)} (al : Alike prog w A E us vs J)
    (hf : ∀ (p : Value × Value) (s : Shared) (Q : ForInStep β → Shared → Prop), wpAny (model prog w) A (eqBool p.1 p.2) (fun r s' => r = true ∧ Q (.yield b) s') E s → wpAny (model prog w) A (f p b) Q E s)
    {Q : β → Shared → Prop} (fin : ∀ s, J (us.zip vs).length s → Q b s) :
    ∀ (done rest : List (Value × Value)) (s : Shared), done ++ rest = us.zip vs → J done.length s → wpAny (model prog w) A (forIn rest b f) Q E s
  | done, [], s, e, h => by
    rw [List.forIn_nil]
    rw [List.append_nil] at e
    exact wpAny_pure (fin s (by rw [← e]; exact h))
  | done, p :: rest, s, e, h => by
    have at_ : (us.zip vs)[done.length]? = some p := by rw [← e, List.getElem?_append_right (Nat.le_refl _), Nat.sub_self]; rfl
    obtain ⟨hu, hv⟩ := List.getElem?_zip_eq_some.mp at_
    rw [List.forIn_cons]
    refine wpAny_bind (hf p s _ (thn (al _ _ _ s hu hv h) fun r s' q => ⟨q.1, ?_⟩))
    exact alike_loop al hf fin (done ++ [p]) rest s' (by rw [List.append_assoc]; exact e) (by rw [List.length_append]; exact q.2)
theorem ne_body {R : Result → Shared → Prop} {l m : Addr} {us vs : Array Value} {J : Nat → Shared → Prop} (hs : us.size = vs.size) (al : Alike prog w A.in1 (fun e s' => R (.error e) s') us.toList vs.toList J)
    (fin : ∀ s, J us.size s → R (.ok (.ret (.bool false))) s) {s : Shared} (hl : s.heap.IsTuple l us) (hm : s.heap.IsTuple m vs) (h : J 0 s) :
    wpAny (model prog w) A.in1 (Builtin.«tuple.__ne__» ⟨[.ref l, .ref m], []⟩) (GQ.FinOf prog w A R) (fun e s' => R (.error e) s') s := by
  have f2 := AutoSeq1.sub_tuple_tuple
  obtain ⟨⟨c, dd, da, sl⟩, ho, hc, n, hd⟩ := hl
  obtain ⟨⟨c2, dd2, da2, sl2⟩, ho2, hc2, n2, hd2⟩ := hm
  cases hc; cases hc2; cases hd; cases hd2
  have h0 := h
  obtain ⟨hp, g, d, tk, os⟩ := s
  wp_walk using wpAny_loadPart' ho, wpAny_loadPart' ho2, alike_loop (us := us.toList) (vs := vs.toList) (J := J) al _ _ []
  · exact rfl
  · exact h0
  · rintro ⟨x, y⟩ s Q q
    refine wpAny_bind (thn q fun r s' z => ?_)
    rw [z.1]
    exact wpAny_pure z.2
  · intro s q
    rw [List.length_zip, Array.length_toList, Array.length_toList, ← hs, Nat.min_self] at q
    have e : Builtin.Tuple.tupleCompareSizes .NotEq us.size vs.size = .bool false := by rw [← hs]; simp [Builtin.Tuple.tupleCompareSizes]
    show wpAny _ _ (ret (Builtin.Tuple.tupleCompareSizes .NotEq us.size vs.size)) _ _ s
    rw [e]
    exact wpAny_pure (fin s q)
/-- x != y of two tuples that are alike: it gives False -/
theorem ne_tuples {E : Value → Shared → Prop} {s : Shared} {l m : Addr} {us vs : Array Value} {Q : Value → Shared → Prop} {J : Nat → Shared → Prop} (hu : A.units < cLine) (hs : us.size = vs.size) (al : Alike prog w A.in1 E us.toList vs.toList J)
    (fin : ∀ s, J us.size s → Q (.bool false) s) (hl : s.heap.IsTuple l us) (hm : s.heap.IsTuple m vs) (h : J 0 s) : wpAny (model prog w) A (richCompare .NotEq (.ref l) (.ref m)) Q E s := by
  have tl : s.TypeIs (.ref l) "tuple" := let ⟨o, e, c, _⟩ := hl; ⟨o, e, c⟩
  have tm : s.TypeIs (.ref m) "tuple" := let ⟨o, e, c, _⟩ := hm; ⟨o, e, c⟩
  have body := ne_body (R := wants (fun v s' => v ≠ .notImplemented ∧ Q v s') E) hs al (fun s' q => ⟨nofun, fin s' q⟩) hl hm h
  exact wpAny_richCompare_same_room (op := .NotEq) tl tm F.slot_tuple_ne (GQ.call_here F.slot_tuple_ne tl F.entry_tuple_ne (F.args_tuple_ne_2 _ _) body) hu
/-- at each turn the list at l is read anew: N items; g tells which of them is equal to x -/
structure Seek (prog : Program) (w : World) (A : Around) (E : Value → Shared → Prop) (l : Addr) (x : Value) (g : Nat → Bool) (N : Nat) (J : Shared → Prop) : Prop where
  turn : ∀ (i : Nat) (s : Shared), i < N → J s → ∃ (us : Array Value) (c : Nat) (u : Value), s.heap.get? l = some { cls := .type "list", data := .seq us c } ∧ us[i]? = some u ∧ wpAny (model prog w) A (eqBool u x) (fun r s' => r = g i ∧ J s') E s
/-- the search goes on until it finds: d turns more at the most -/
theorem seek_loop {R : Result → Shared → Prop} {l : Addr} {x : Value} {g : Nat → Bool} {N : Nat} {J : Shared → Prop} (K : Seek prog w A.in1 (fun e s' => R (.error e) s') l x g N J) (fin : ∀ s, J s → R (.ok (.ret (.bool true))) s) :
    ∀ (d i : Nat) (s : Shared), i + d < N → g (i + d) = true → J s → codeAny (model prog w) A (.builtin "list.__contains__.loop" ⟨[.ref l, x, rawInt i], []⟩) R s := by
  intro d
  induction d with
  | zero =>
    intro i s hi hg h
    obtain ⟨us, c, u, hl, hu, q⟩ := K.turn i s hi h
    refine codeAny_builtin entry_contains_loop ?_
    rw [Around.under_plainId plain_contains_loop _]
    obtain ⟨hp, ge, dr, tk, os⟩ := s
    wp_walk using wpAny_loadPart' hl
    rw [show us[((i : Nat) : Int).toNat]? = some u from hu]
    refine wpAny_bind (thn q fun r s' z => ?_)
    rw [z.1, show g i = true from hg, if_pos rfl]
    exact wpAny_pure (fin s' z.2)
  | succ d ih =>
    intro i s hi hg h
    obtain ⟨us, c, u, hl, hu, q⟩ := K.turn i s (by omega) h
    refine codeAny_builtin entry_contains_loop ?_
    rw [Around.under_plainId plain_contains_loop _]
    obtain ⟨hp, ge, dr, tk, os⟩ := s
    wp_walk using wpAny_loadPart' hl
    rw [show us[((i : Nat) : Int).toNat]? = some u from hu]
    refine wpAny_bind (thn q fun r s' z => ?_)
    rw [z.1]
    cases hb : g i with
    | true =>
      rw [if_pos rfl]
      exact wpAny_pure (fin s' z.2)
    | false =>
      rw [if_neg Bool.false_ne_true]
      refine wpAny_pure ⟨plainId_quiet plain_contains_loop _, ?_⟩
      have r := ih (i + 1) s' (by omega) (by rw [show i + 1 + d = i + (d + 1) by omega]; exact hg) z.2
      exact r
/-- x in the list at l: one of its items is equal to x -/
theorem in_found {E : Value → Shared → Prop} {s : Shared} {Q : Value → Shared → Prop} {l : Addr} {x : Value} {g : Nat → Bool} {N j : Nat} {J : Shared → Prop} (K : Seek prog w A.in1 E l x g N J) (hj : j < N) (hg : g j = true)
    (fin : ∀ s, J s → Q (.bool true) s) (h : J s) : wpAny (model prog w) A (compareOp .In x (.ref l)) Q E s := by
  obtain ⟨us, c, _, hl, _, _⟩ := K.turn j s hj h
  have tl : s.TypeIs (.ref l) "list" := ⟨_, hl, rfl⟩
  have go : wpAny (model prog w) A (call (.builtin "list.__contains__") [.ref l, x]) (fun v s' => v = .bool true ∧ J s') E s := by
    refine GQ.call_here F.slot_list_contains tl F.entry_list_contains (F.args_list_contains_2 _ _) ?_
    have r := seek_loop (A := A) (R := wants (fun v s' => v = .bool true ∧ J s') E) K (fun s' q => ⟨rfl, q⟩) j 0 s (by omega) (by rw [Nat.zero_add]; exact hg) h
    obtain ⟨hp, ge, dr, tk, os⟩ := s
    wp_walk using wpAny_loadPart' hl
    exact ⟨plainId_quiet plain_contains_loop _, r⟩
  show wpAny _ A (contains (.ref l) x >>= fun b => pure (.bool b)) Q E s
  refine wpAny_bind (wpAny_contains_slot tl F.slot_list_contains (thn go fun v s' z => ?_))
  rw [z.1]
  exact wpAny_truthy_bool (wpAny_pure (fin s' z.2))
end
/-! ### as rules -/
/-- two Worths of as many tenths -/
def DWt (K : PySem.W.Frag) : Eqv := fun x y H => ∃ n, Rep K H x (.wt n) ∧ Rep K H y (.wt n)
theorem mon_W {K : PySem.W.Frag} : Mon (DWt K) := fun x y H H' e ⟨n, h1, h2⟩ => ⟨n, h1.mono e, h2.mono e⟩
abbrev rEqTW (K : PySem.W.Frag) : R2 := rEqG (DTup K (DWt K))
def rNeTW (K : PySem.W.Frag) : R2 := fun x y H Q => DTup K (DWt K) x y H ∧ ∀ H', Ext H H' → Q (.bl false) H'
def rInWL (K : PySem.W.Frag) : R2 := fun x y H Q => ∃ (n : Int) (ns : List Int), Rep K H x (.wt n) ∧ Rep K H y (.lst (ns.map D.wt)) ∧ n ∈ ns ∧ ∀ H', Ext H H' → Q (.bl true) H'
theorem repl_wt {K : PySem.W.Frag} {H : Hp} {ns : List Int} : ∀ {vs : List V} {i : Nat} {v : V}, RepL K H vs (ns.map D.wt) → vs[i]? = some v → ∃ n, ns[i]? = some n ∧ Rep K H v (.wt n) := fun {vs i v} r h => by
  obtain ⟨d, h1, h2⟩ := r.get' h
  rw [List.getElem?_map] at h1
  cases q : ns[i]? with
  | none => rw [q] at h1; cases h1
  | some n =>
    rw [q] at h1
    have : D.wt n = d := by simpa using h1
    subst this
    exact ⟨n, rfl, h2⟩
section
variable {X : Cx} {k j : Nat}
theorem eqG_W (F : Mtd X.prog X.w X.K X.mg X.base k (cW X.K) "__eq__" ["self", "other"] (spEqW X.K)) : EqG X k (DWt X.K) := by
  intro A pins s σ H x y u v sb I rx ry ⟨n, h1, h2⟩
  refine wpAny_mono (eqb_W F sb I (Same.refl H) h1 h2 rx ry) (fun r s' q => ?_) fun _ _ e => e
  obtain ⟨rfl, Hn, H', I', f⟩ := q
  exact ⟨decide_eq_true rfl, H', I', f.s⟩
theorem op_eqTW (F : Mtd X.prog X.w X.K X.mg X.base k (cW X.K) "__eq__" ["self", "other"] (spEqW X.K)) (hr : Room j X.A) (hk : k + 1 ≤ j) : OpR X (compareOp .Eq) (rEqTW X.K) :=
  op_eqG (rcG_tup mon_W (eqG_W F)) (hr.mono hk)
theorem val_of {xs : List V} {us : List Value} {i : Nat} {u : Value} (r : Vals xs us) (h : us[i]? = some u) : ∃ x, xs[i]? = some x ∧ RelV x u := by
  obtain ⟨hi, _⟩ := List.getElem?_eq_some_iff.mp h
  have hx := List.getElem?_eq_getElem (l := xs) (i := i) (by rw [r.length]; exact hi)
  obtain ⟨w, h1, h2⟩ := r.get hx
  rw [h] at h1
  exact ⟨_, hx, Option.some.inj h1 ▸ h2⟩
theorem op_neTW (F : Mtd X.prog X.w X.K X.mg X.base k (cW X.K) "__eq__" ["self", "other"] (spEqW X.K)) (hr : Room j X.A) (hk : k + 1 ≤ j) : OpR X (compareOp .NotEq) (rNeTW X.K) := by
  rintro pins s σ H x y v u Q I rx ry ⟨⟨a, b, xs, ys, rfl, rfl, ha, hb, hlen, p⟩, q⟩
  obtain rfl : v = .ref a := rx
  obtain rfl : u = .ref b := ry
  obtain ⟨us, v1, t1, _⟩ := I.tuple ha
  obtain ⟨vs, v2, t2, _⟩ := I.tuple hb
  have sb : Sub X k X.A.in1 := Sub.in1 (A := X.A) ⟨hr.mono hk, rfl⟩
  have al : Alike X.prog X.w X.A.in1 X.xe us.toArray.toList vs.toArray.toList (fun _ => LoopI X pins σ H) := by
    rintro i m n s' hm hn ⟨H1, I1, e1⟩
    obtain ⟨x, hx, r1⟩ := val_of v1 hm
    obtain ⟨y, hy, r2⟩ := val_of v2 hn
    refine thn (eqG_W F X.A.in1 pins s' σ H1 x y m n sb I1 r1 r2 (mon_W _ _ _ _ e1 (p i x y hx hy))) fun r s2 z => ⟨z.1, ?_⟩
    obtain ⟨_, H2, I2, e2⟩ := z
    exact ⟨H2, I2, e1.trans e2⟩
  refine ne_tuples (J := fun _ => LoopI X pins σ H) hr.units0 ?_ al (fun s' z => ?_) t1 t2 ⟨H, I, Ext.rfl'⟩
  · simp only [List.size_toArray]
    rw [← v1.length, ← v2.length, hlen]
  · obtain ⟨H', I', e⟩ := z
    exact ⟨.bl false, H', I', rfl, q H' e⟩
theorem op_inWL (F : Mtd X.prog X.w X.K X.mg X.base k (cW X.K) "__eq__" ["self", "other"] (spEqW X.K)) (hr : Room j X.A) (hk : k + 1 ≤ j) : OpR X (compareOp .In) (rInWL X.K) := by
  rintro pins s σ H x y v u Q I rx ry ⟨n, ns, h1, h2, hm, q⟩
  have sb : Sub X k X.A.in1 := Sub.in1 (A := X.A) ⟨hr.mono hk, rfl⟩
  rw [Rep] at h2
  obtain ⟨l, xs, rfl, hl, hv⟩ := h2
  obtain rfl : u = .ref l := ry
  have K : Seek X.prog X.w X.A.in1 X.xe l v (fun i => decide (ns[i]? = some n)) ns.length (LoopI X pins σ H) := ⟨by
    rintro i s' hi ⟨H1, I1, e1⟩
    obtain ⟨_, us, c, r, e⟩ := I1.hok l _ (e1 _ _ hl)
    obtain ⟨m, g3, g4⟩ := repl_wt hv (List.getElem?_eq_getElem (l := xs) (i := i) (by rw [hv.len, List.length_map]; exact hi))
    obtain ⟨w', g1, g2⟩ := r.get (List.getElem?_eq_getElem (l := xs) (i := i) (by rw [hv.len, List.length_map]; exact hi))
    refine ⟨us.toArray, c, w', e, by rw [List.getElem?_toArray]; exact g1, thn (eqb_W F sb I1 (Same.refl H1) (g4.mono e1) (h1.mono e1) g2 rx) fun r' s2 z => ⟨?_, ?_⟩⟩
    · rw [z.1, g3]
      simp
    · obtain ⟨_, _, H2, I2, f⟩ := z
      exact ⟨H2, I2, e1.trans f.s⟩⟩
  obtain ⟨i, hi⟩ := List.mem_iff_getElem?.mp hm
  refine in_found K (List.getElem?_eq_some_iff.mp hi).1 (decide_eq_true hi) (fun s' z => ?_) ⟨H, I, Ext.rfl'⟩
  obtain ⟨H', I', e⟩ := z
  exact ⟨.bl true, H', I', rfl, q H' e⟩
end
/-! ### data -/
section
variable {K : PySem.W.Frag} {δ : KX.Env} {ow : Own} {ta tb te : TE} {n m : Int} {ns : List Int}
theorem Fx.ext {Hb H H' : Hp} (s : Same Hb H) (e : Ext H H') : Fx Hb H Hb H' := ⟨Same.refl _, s.trans e, e, fun _ h _ => h⟩
theorem dtup_wt {Hb H : Hp} {x y : V} (s : Same Hb H) (r1 : Rep K Hb x (.tup (ns.map D.wt))) (r2 : Rep K Hb y (.tup (ns.map D.wt))) : DTup K (DWt K) x y H := by
  rw [Rep] at r1 r2
  obtain ⟨a, us, e1, h1, g1⟩ := r1
  obtain ⟨b, vs, e2, h2, g2⟩ := r2
  refine ⟨a, b, us, vs, e1, e2, Same.tup s h1, Same.tup s h2, by rw [g1.len, g2.len], fun i x y hx hy => ?_⟩
  obtain ⟨n, q1, q2⟩ := repl_wt g1 hx
  obtain ⟨m, q3, q4⟩ := repl_wt g2 hy
  rw [q1] at q3
  have : n = m := Option.some.inj q3
  subst this
  exact ⟨n, q2.mono s, q4.mono s⟩
theorem ed_eqTW (ha : ED K ta δ ow (.tup (ns.map D.wt))) (hb : ED K tb δ ow (.tup (ns.map D.wt))) : ED K (tOp (rEqTW K) ta tb) δ ow (.bl true) :=
  ed_2 ha hb fun Hb H v w Q s r1 r2 k => ⟨dtup_wt s r1 r2, fun H' e => k _ Hb H' (.ext s e) rep_bl⟩
theorem ed_neTW (ha : ED K ta δ ow (.tup (ns.map D.wt))) (hb : ED K tb δ ow (.tup (ns.map D.wt))) : ED K (tOp (rNeTW K) ta tb) δ ow (.bl false) :=
  ed_2 ha hb fun Hb H v w Q s r1 r2 k => ⟨dtup_wt s r1 r2, fun H' e => k _ Hb H' (.ext s e) rep_bl⟩
theorem ed_inWL (ha : ED K ta δ ow (.wt n)) (hb : ED K tb δ ow (.lst (ns.map D.wt))) (h : n ∈ ns) : ED K (tOp (rInWL K) ta tb) δ ow (.bl true) :=
  ed_2 ha hb fun Hb H v w Q s r1 r2 k => ⟨n, ns, r1.mono s, r2.mono s, h, fun H' e => k _ Hb H' (.ext s e) rep_bl⟩
theorem ed_eqW (ha : ED K ta δ ow (.wt n)) (hb : ED K tb δ ow (.wt m)) : ED K (tOp (rEqWt K) ta tb) δ ow (.bl (decide (n = m))) :=
  ed_2 ha hb fun Hb H v w Q s r1 r2 k => ⟨Hb, n, m, s, r1, r2, fun Hn H2 f => k _ Hn H2 f rep_bl⟩
theorem ed_neW (ha : ED K ta δ ow (.wt n)) (hb : ED K tb δ ow (.wt m)) : ED K (tOp (rNeWt K) ta tb) δ ow (.bl (!decide (n = m))) :=
  ed_2 ha hb fun Hb H v w Q s r1 r2 k => ⟨Hb, n, m, s, r1, r2, fun Hn H2 f => k _ Hn H2 f rep_bl⟩
theorem ed_negW (ha : ED K ta δ ow (.wt n)) : ED K (tUn (rNegWt K) ta) δ ow (.wt (-n)) :=
  ed_1 ha fun Hb H v Q s r1 k => by
    have r := r1
    rw [Rep] at r
    obtain ⟨a, dx, rfl, h⟩ := r
    exact ⟨a, dx, _, rfl, s _ _ h, Hb, n, s, RepL.cons r1 RepL.nil, trivial, k⟩
end
end KX
/-! int('1' + '0' * n), n below 40. -/
namespace KX
open PySem PySem.Spec PyProof.Rows L2
/-- '0' * n -/
def zer (n : Nat) : Str := if (n : Int) < 1 then Str.empty else if ((n : Int) == 1 || ("0" : Str).length == 0) = true then ("0" : Str) else ⟨(List.replicate ((n : Int).toNat) ("0" : Str).cps).foldl (· ++ ·) #[]⟩
theorem zer_len : ∀ n : Fin 40, (zer n.val).length = n.val := by decide +kernel
theorem zer_int : ∀ n : Fin 40, PySem.intText? (("1" : Str) ++ zer n.val) = some ((10 ^ n.val : Nat) : Int) := by decide +kernel
theorem one_len : ∀ n : Fin 40, (("1" : Str) ++ zer n.val).length ≤ 640 := by decide +kernel
def rZer : R2 := fun x y H Q => ∃ n : Nat, n < 40 ∧ x = .str "0" ∧ y = .int (n : Int) ∧ Q (.str (zer n)) H
theorem op_zer {X : Cx} : OpR X (binaryOp .Mult) rZer := by
  intro pins s σ H x y v u Q I rx ry h
  obtain ⟨n, hn, rfl, rfl, q⟩ := h
  obtain ⟨t, rfl⟩ := rx
  obtain ⟨t', rfl⟩ := ry
  have hlen : ("0" : Str).length = 1 := by decide
  have h63 : (2 : Int) ^ 63 = 9223372036854775808 := by decide
  refine PySem.P.mul_str ?_ ?_ ?_ ?_
  · rw [decide_eq_false (by omega), decide_eq_false (by omega)]; rfl
  · intro h1 _ h2
    rw [hlen] at h2
    have : (1 : Int) ≤ (2 ^ 63 - 1) / (n : Int) := by
      rw [Int.le_ediv_iff_mul_le (by omega)]
      omega
    omega
  · intro _ _
    rw [hlen]
    have : sizeLine = 16777216 := by decide
    refine decide_eq_false ?_
    show ¬ (1 * (n : Int).toNat > sizeLine)
    rw [this, Int.toNat_natCast]
    omega
  · have zl := zer_len ⟨n, hn⟩
    have key : ∀ z : Str, z.length ≤ 40 → zer n = z → (Made.str z).post (EP X pins σ Q) s := fun z hz e => by
      refine ⟨?_, .str (zer n), H, I.tok _, ⟨_, by rw [e]⟩, q⟩
      exact Nat.le_trans hz (by decide)
    unfold zer at zl key
    split
    · rename_i c
      rw [if_pos c] at key
      exact key _ (by decide) rfl
    · rename_i c
      rw [if_neg c] at key zl
      split
      · rename_i c2
        refine ⟨.str (zer n), H, I, ⟨t, ?_⟩, q⟩
        unfold zer
        rw [if_neg c, if_pos c2]
      · rename_i c2
        rw [if_neg c2] at key zl
        refine key _ ?_ rfl
        rw [zl]
        show n ≤ 40
        omega
section
variable {K : PySem.W.Frag} {δ : KX.Env} {ow : Own} {ta tb te : TE}
abbrev rCatS : R2 := fun x y H Q => ∃ i j, x = .str i ∧ y = .str j ∧ i.length + j.length ≤ sizeLine ∧ Q (.str (i ++ j)) H
abbrev rIntS : List V → Hp → VK → Prop := fun xs H Q => ∃ a n, xs = [.str a] ∧ PySem.intText? a = some n ∧ a.length ≤ 640 ∧ Q (.int n) H
theorem ed_ten {n : Nat} (h : n < 40) (hb : ED K tb δ ow (.int (n : Int))) : ED K (tCB rIntS (tCons (tOp rCatS (tC (.str "1")) (tOp rZer (tC (.str "0")) tb)) tNil)) δ ow (.int ((10 ^ n : Nat) : Int)) := fun H0 Hb H σ Q s k => by
  refine hb H0 Hb H σ _ s fun v Hn H2 f1 r1 => ?_
  rw [Rep] at r1
  subst r1
  refine ⟨n, h, rfl, rfl, ("1" : Str), zer n, rfl, rfl, ?_, _, _, rfl, zer_int ⟨n, h⟩, one_len ⟨n, h⟩, k _ Hn H2 f1 rep_int⟩
  have := zer_len ⟨n, h⟩
  have e : (zer n).length = n := this
  rw [e]
  show 1 + n ≤ sizeLine
  have : sizeLine = 16777216 := by decide
  omega
end
end KX
/-! What each def promises. -/
namespace KX
open PySem PySem.Spec PyProof.Rows L2
def Way.s : Way → Str
  | .he => "halfeven" | .fl => "floor" | .hu => "halfup" | .cu => "cut" | .ha => "halfaway"
def Kd.s : Kd → Str
  | .od => "odd" | .ev => "even" | .tu => "turn"
abbrev encE (e : Int × Int) : D := .tup [.wt e.1, .int e.2]
abbrev dE (es : Ent) : D := .lst (es.map encE)
abbrev dZ (ns : List Int) : D := .lst (ns.map D.int)
abbrev encP (p : Bool × Int) : D := .tup [.bl p.1, .int p.2]
abbrev dP (ps : List (Bool × Int)) : D := .lst (ps.map encP)
abbrev encR (r : Kd × Int) : D := .tup [.str r.1.s, .int r.2]
abbrev dR (rs : List (Kd × Int)) : D := .lst (rs.map encR)
abbrev encQ (q : Int × Int) : D := .tup [.int q.1, .int q.2]
abbrev dQ (qs : List (Int × Int)) : D := .lst (qs.map encQ)
abbrev encV (v : Int × Int × Int) : D := .tup [.int v.1, .int v.2.1, .int v.2.2]
abbrev dV (vs : List (Int × Int × Int)) : D := .lst (vs.map encV)
/-- entries as they come -/
structure OkE (es : Ent) : Prop where
  few : es.length ≤ 3
  nn : ∀ e ∈ es, 0 ≤ e.2
  sm : ∀ e ∈ es, e.1.natAbs < 2 ^ 20
  tot : (es.map (·.2)).sum < 2 ^ 500
structure OkD (b P a : Int) : Prop where
  b0 : 0 < b
  P0 : 0 < P
  bs : b < 2 ^ 400
  Ps : P < 2 ^ 400
  a0 : 0 ≤ a
  a1 : a < b * P
  one : P = 1 → b = 1
/-- the borders of runs -/
structure OkB (bs : List Int) : Prop where
  few : bs.length ≤ 4
  sm : ∀ x ∈ bs, 0 ≤ x ∧ x < 2 ^ 500
structure OkP (ps : List (Bool × Int)) : Prop where
  few : ps.length ≤ 3
  sm : ∀ p ∈ ps, p.2.natAbs < 2 ^ 21
def Sd (w : Way) : Prop := w = .he ∨ w = .cu ∨ w = .ha
/-- a way for which all is told: halfeven, or a free one -/
def Told (w : Way) (es : Ent) : Prop := w = .he ∨ freeF w es = true
section
variable (K : PySem.W.Frag)
abbrev sp_is_integer : Sp := spA K (fun i : Int => [.int i]) (fun _ => True) (fun _ => .bl true)
abbrev sp_is_whole : Sp := spA K (fun i : Int => [.int i]) (fun _ => True) (fun i => .bl (decide (0 ≤ i)))
abbrev sp_need_integer : Sp := spA K (fun i : Int => [.int i]) (fun _ => True) (fun _ => .non)
abbrev sp_need_whole : Sp := spA K (fun i : Int => [.int i]) (fun i => 0 ≤ i) (fun _ => .non)
abbrev sp_need_positive : Sp := spA K (fun i : Int => [.int i]) (fun i => 0 < i) (fun _ => .non)
abbrev sp_need_items : Sp := spA K (fun l : List D => [.lst l]) (fun _ => True) (fun _ => .non)
abbrev sp_ten_to : Sp := spA K (fun i : Int => [.int i]) (fun i => i = 0 ∨ i = 1) (fun i => .int (if i = 0 then 1 else 10))
abbrev sp_lowered : Sp := spA K (fun a : Int × Int => [.int a.1, .int a.2]) (fun a => a.2 = 0 ∨ a.2 = 1) (fun a => .tup [.int (wu (tn a.1 a.2)), .int (wsc (tn a.1 a.2))])
abbrev sp_Worth_sign : Sp := spA K (fun n : Int => [.wt n]) (fun _ => True) (fun n => .int (sgn n))
abbrev sp_Worth_units_at : Sp := spA K (fun n : Int => [.wt n, .int 0]) (fun n => n % 10 = 0 ∧ n.natAbs < 2 ^ 100) (fun n => .int (n / 10))
abbrev sp_need_worth : Sp := spA K (fun n : Int => [.wt n]) (fun _ => True) (fun _ => .non)
abbrev sp_worth_sum : Sp := spA K (fun a : Int × Int => [.wt a.1, .wt a.2, .int (-1)]) (fun a => a.1.natAbs < 2 ^ 3000 ∧ a.2.natAbs < 2 ^ 3000) (fun a => .wt (a.1 - a.2))
abbrev sp_compare : Sp := spA K (fun a : Int × Int => [.wt a.1, .wt a.2]) (fun a => a.1.natAbs < 2 ^ 3000 ∧ a.2.natAbs < 2 ^ 3000) (fun a => .int (sgn (a.1 - a.2)))
abbrev sp_need_way : Sp := spA K (fun w : Way => [.str w.s]) (fun _ => True) (fun _ => .non)
abbrev sp_lift : Sp := spA K (fun a : Way × Int × Bool × Bool => [.str a.1.s, .int a.2.1, .bl a.2.2.1, .bl a.2.2.2]) (fun a => 0 ≤ a.2.1 ∧ a.2.1 ≤ 3) (fun a => .int (liftF a.1 a.2.1 a.2.2.1 a.2.2.2))
abbrev sp_part_of : Sp := spA K (fun a : Int × Int => [.int a.1, .int a.2]) (fun a => a.1.natAbs < 2 ^ 100) (fun a => .int (partF a.1 a.2))
abbrev sp_divided_by : Sp := spA K (fun a : Int × Int × Way => [.int a.1, .int a.2.1, .str a.2.2.s]) (fun a => (a.2.1 = 1 ∨ a.2.1 = 10) ∧ a.1.natAbs < 2 ^ 100) (fun a => .int (divF a.1 a.2.1 a.2.2))
abbrev sp_is_entry : Sp := spA K (fun e : Int × Int => [encE e]) (fun _ => True) (fun e => .bl (decide (0 ≤ e.2)))
abbrev sp_need_entries : Sp := spA K (fun es : Ent => [dE es]) OkE (fun _ => .non)
abbrev sp_need_asked : Sp := spA K (fun a : Ent × Way => [dE a.1, .int 0, .str a.2.s]) (fun a => OkE a.1) (fun _ => .non)
abbrev sp_in_parts : Sp := spA K (fun n : Int => [.wt n, .int 0]) (fun n => n.natAbs < 2 ^ 20) (fun n => .tup [.int (wu n), .int (un n)])
abbrev sp_loose_parts : Sp := spA K (fun a : Int × Way => [.wt a.1, .int 0, .str a.2.s]) (fun a => a.1.natAbs < 2 ^ 20) (fun a => .tup [.bl (looseF a.2 a.1), .int (unitF a.2 a.1)])
abbrev sp_added : Sp := spA K (fun a : Int × Int × Way => [.int a.1, .bl true, .int a.2.1, .str a.2.2.s]) (fun a => Sd a.2.2) (fun a => .int (addF a.2.2 a.1 a.2.1))
abbrev sp_added_often : Sp := spA K (fun a : Int × Int × Int × Way => [.int a.1, .int a.2.1, .int a.2.2.1, .str a.2.2.2.s]) (fun a => Sd a.2.2.2 ∧ a.2.1.natAbs < 2 ^ 21 ∧ a.2.2.1.natAbs < 2 ^ 2000) (fun a => .int (oftF a.2.2.2 a.1 a.2.1 a.2.2.1))
abbrev sp_running_units : Sp := spA K (fun a : Ent × Way => [dE a.1, .int 0, .str a.2.s]) (fun a => OkE a.1) (fun a => .int (runF a.2 a.1))
abbrev sp_free_entries : Sp := spA K (fun a : Ent × Way => [dE a.1, .int 0, .str a.2.s]) (fun a => OkE a.1) (fun a => .bl (freeF a.2 a.1))
abbrev sp_single_total : Sp := spA K (fun a : Ent × Way => [dE a.1, .int 0, .str a.2.s]) (fun a => OkE a.1) (fun a => .wt (10 * singF a.2 a.1))
abbrev sp_running_total : Sp := spA K (fun a : Ent × Way => [dE a.1, .int 0, .str a.2.s]) (fun a => OkE a.1) (fun a => .wt (10 * runF a.2 a.1))
abbrev sp_is_free : Sp := spA K (fun a : Ent × Way => [dE a.1, .int 0, .str a.2.s]) (fun a => OkE a.1) (fun a => .bl (freeF a.2 a.1))
abbrev sp_even_ends : Sp := spA K (fun es : Ent => [dE es, .int 0]) OkE (fun es => .tup [.int (endLo es), .int (endHi es)])
def OneSign (es : Ent) : Prop := (∀ e ∈ es, 0 ≤ e.1) ∨ ∀ e ∈ es, e.1 ≤ 0
abbrev sp_sided_top : Sp := spA K (fun a : Ent × Way => [dE a.1, .int 0, .str a.2.s]) (fun a => OkE a.1 ∧ (a.2 = .cu ∨ a.2 = .ha) ∧ OneSign a.1) (fun a => .int (topF a.2 a.1))
abbrev sp_order_range : Sp := spA K (fun a : Ent × Way => [dE a.1, .int 0, .str a.2.s]) (fun a => OkE a.1 ∧ (a.2 = .cu ∨ a.2 = .ha → ∀ e ∈ a.1, 0 ≤ e.1)) (fun a => .tup [.wt (10 * ordLo a.2 a.1), .wt (10 * ordHi a.2 a.1)])
abbrev sp_even_runs : Sp := spA K (fun es : Ent => [dE es, .int 0]) OkE (fun es => .tup [.int (runsF es).1, dR (runsF es).2])
abbrev sp_odd_houses : Sp := spA K (fun a : Int × Int × Int × Bool => [.int a.1, .int a.2.1, .int a.2.2.1, .bl a.2.2.2]) (fun _ => True) (fun a => .int (oddHF a.1 a.2.1 a.2.2.1 a.2.2.2))
abbrev sp_best_given : Sp := spA K (fun a : Ent × Int => [dE a.1, .int 0, .int a.2]) (fun a => OkE a.1) (fun a => .int (bestF a.1 a.2))
abbrev sp_negated : Sp := spA K (fun es : Ent => [dE es]) OkE (fun es => dE (negE es))
abbrev sp_need_told_giving : Sp := spA K (fun a : Ent × Way => [dE a.1, .int 0, .str a.2.s]) (fun a => OkE a.1 ∧ Told a.2 a.1) (fun _ => .non)
abbrev sp_need_told_shiftsums : Sp := spA K (fun a : Ent × Way => [dE a.1, .int 0, .str a.2.s]) (fun a => OkE a.1 ∧ Told a.2 a.1) (fun _ => .non)
abbrev sp_given_range : Sp := spA K (fun a : Ent × Way × Int => [dE a.1, .int 0, .str a.2.1.s, .int a.2.2]) (fun a => OkE a.1 ∧ Told a.2.1 a.1 ∧ 0 < a.2.2) (fun a => .tup [.wt (10 * givLo a.2.1 a.1 a.2.2), .wt (10 * givHi a.2.1 a.1 a.2.2)])
abbrev sp_enough : Sp := spA K (fun es : Ent => [dE es, .int 0]) OkE (fun es => .int (enoF es))
abbrev sp_houses_enough : Sp := spA K (fun a : Ent × Way => [dE a.1, .int 0, .str a.2.s]) (fun a => OkE a.1 ∧ Told a.2 a.1) (fun a => .tup [.int (if a.2 = .he then enoF (negE a.1) else 1), .int (if a.2 = .he then enoF a.1 else 1)])
abbrev sp_below : Sp := spA K (fun a : Int × Int × Int => [.int a.1, .int a.2.1, .int a.2.2]) (fun a => 0 < a.1 ∧ a.1 < 2 ^ 2000 ∧ a.2.1.natAbs < 2 ^ 2000 ∧ a.2.2.natAbs < 2 ^ 2000) (fun a => .int (belowF a.1 a.2.1 a.2.2))
abbrev sp_Deal_turn : Sp := spA K (fun a : Int × Int × Int => [.deal a.1 a.2.1 a.2.2]) (fun a => OkD a.1 a.2.1 a.2.2) (fun a => .int (a.1 * a.2.1))
abbrev sp_need_deal : Sp := spA K (fun a : Int × Int × Int => [.deal a.1 a.2.1 a.2.2]) (fun _ => True) (fun _ => .non)
abbrev sp_form_of : Sp := spA K (fun es : Ent => [dE es]) OkE (fun es => dE (formF es))
abbrev sp_runs_of : Sp := spA K (fun es : Ent => [dE es]) OkE (fun es => dE (formF es))
abbrev sp_borders_of : Sp := spA K (fun es : Ent => [dE es]) OkE (fun es => dZ (bordE es))
abbrev sp_counts_of : Sp := spA K (fun a : List Int × Int × Int × Int × Int => [dZ a.1, .deal a.2.1 a.2.2.1 a.2.2.2.1, .int a.2.2.2.2]) (fun a => OkB a.1 ∧ OkD a.2.1 a.2.2.1 a.2.2.2.1 ∧ 0 ≤ a.2.2.2.2 ∧ a.2.2.2.2 < a.2.2.1 ∧ 1 ≤ a.1.length) (fun a => dZ (countsF a.1 a.2.1 a.2.2.1 a.2.2.2.1 a.2.2.2.2))
abbrev sp_stretches_of : Sp := spA K (fun a : List Int × Int × Int × Int => [dZ a.1, .deal a.2.1 a.2.2.1 a.2.2.2]) (fun a => OkB a.1 ∧ OkD a.2.1 a.2.2.1 a.2.2.2) (fun a => dQ (strF a.1 a.2.1 a.2.2.1 a.2.2.2))
abbrev sp_parts_of : Sp := spA K (fun a : Ent × Way => [dE a.1, .int 0, .str a.2.s]) (fun a => OkE a.1) (fun a => dP (prtE a.2 a.1))
abbrev sp_counted_total : Sp := spA K (fun a : List (Bool × Int) × List Int × Way => [dP a.1, dZ a.2.1, .str a.2.2.s]) (fun a => OkP a.1 ∧ a.1.length = a.2.1.length ∧ (∀ t ∈ a.2.1, t.natAbs < 2 ^ 2000) ∧ ((∀ p ∈ a.1, p.1 = true → Sd a.2.2))) (fun a => .int (cntF a.2.2 a.1 a.2.1))
abbrev preD (bs : List Int) (ps : List (Bool × Int)) (w : Way) : Prop := OkB bs ∧ OkP ps ∧ bs.length = ps.length + 1 ∧ ∀ p ∈ ps, p.1 = true → Sd w
abbrev sp_dealt_of : Sp := spA K (fun a : List Int × List (Bool × Int) × Int × Int × Int × Way => [dZ a.1, dP a.2.1, .deal a.2.2.1 a.2.2.2.1 a.2.2.2.2.1, .str a.2.2.2.2.2.s]) (fun a => preD a.1 a.2.1 a.2.2.2.2.2 ∧ OkD a.2.2.1 a.2.2.2.1 a.2.2.2.2.1) (fun a => .int (dealF a.2.2.2.2.2 a.1 a.2.1 a.2.2.1 a.2.2.2.1 a.2.2.2.2.1))
abbrev sp_dealt_total : Sp := spA K (fun a : Ent × Int × Int × Int × Way => [dE a.1, .deal a.2.1 a.2.2.1 a.2.2.2.1, .int 0, .str a.2.2.2.2.s]) (fun a => OkE a.1 ∧ OkD a.2.1 a.2.2.1 a.2.2.2.1) (fun a => .wt (10 * dtotF a.2.2.2.2 a.1 a.2.1 a.2.2.1 a.2.2.2.1))
abbrev sp_pieces_of : Sp := spA K (fun a : Ent × Int => [dE a.1, .int a.2]) (fun a => OkE a.1 ∧ 0 < a.2) (fun a => dQ (pieF (bordE a.1) a.2))
abbrev sp_values_of : Sp := spA K (fun a : Ent × Int × Int × Int × Way => [dE a.1, .deal a.2.1 a.2.2.1 a.2.2.2.1, .int 0, .str a.2.2.2.2.s]) (fun a => OkE a.1 ∧ OkD a.2.1 a.2.2.1 a.2.2.2.1) (fun a => dV (valsF a.2.2.2.2 a.1 a.2.1 a.2.2.1))
abbrev sp_asked_values : Sp := spA K (fun a : Ent × Int × Int × Int × Way => [dE a.1, .deal a.2.1 a.2.2.1 a.2.2.2.1, .int 0, .str a.2.2.2.2.s]) (fun a => OkE a.1 ∧ OkD a.2.1 a.2.2.1 a.2.2.2.1 ∧ Told a.2.2.2.2 (formF a.1)) (fun a => dV (valsF a.2.2.2.2 (formF a.1) a.2.1 a.2.2.1))
abbrev sp_shift_totals : Sp := spA K (fun a : Ent × Int × Int × Int × Way => [dE a.1, .deal a.2.1 a.2.2.1 a.2.2.2.1, .int 0, .str a.2.2.2.2.s]) (fun a => OkE a.1 ∧ OkD a.2.1 a.2.2.1 a.2.2.2.1 ∧ Told a.2.2.2.2 (formF a.1)) (fun a => .tup ((told a.2.2.2.2 a.1 a.2.1 a.2.2.1).map fun q => .tup [.wt (10 * q.1), .int q.2]))
abbrev sp_least_shift : Sp := spA K (fun a : Ent × Int × Int × Int × Way => [dE a.1, .deal a.2.1 a.2.2.1 a.2.2.2.1, .int 0, .str a.2.2.2.2.s]) (fun a => OkE a.1 ∧ OkD a.2.1 a.2.2.1 a.2.2.2.1 ∧ Told a.2.2.2.2 (formF a.1)) (fun a => .tup [.wt (10 * (leastF a.2.2.2.2 a.1 a.2.1 a.2.2.1).getD 0 0), .int ((leastF a.2.2.2.2 a.1 a.2.1 a.2.2.1).getD 1 0)])
abbrev sp_greatest_shift : Sp := spA K (fun a : Ent × Int × Int × Int × Way => [dE a.1, .deal a.2.1 a.2.2.1 a.2.2.2.1, .int 0, .str a.2.2.2.2.s]) (fun a => OkE a.1 ∧ OkD a.2.1 a.2.2.1 a.2.2.2.1 ∧ Told a.2.2.2.2 (formF a.1)) (fun a => .tup [.wt (10 * -(greatF a.2.2.2.2 a.1 a.2.1 a.2.2.1).getD 0 0), .int ((greatF a.2.2.2.2 a.1 a.2.1 a.2.2.1).getD 1 0)])
def risF (ws : List Int) : Bool := (List.range (ws.length - 1)).all fun i => decide (sgn (ws.getD i 0 - ws.getD (i + 1) 0) < 1)
abbrev sp__law_rising : Sp := spA K (fun ws : List Int => [.lst (ws.map D.wt)]) (fun ws => ws.length ≤ 10 ∧ ∀ x ∈ ws, x.natAbs < 2 ^ 3000) (fun ws => .bl (risF ws))
abbrev sp__law_ends : Sp := spA K (fun a : Ent × Way × Int => [dE a.1, .str a.2.1.s, .int a.2.2]) (fun a => OkE a.1 ∧ Told a.2.1 a.1 ∧ 0 < a.2.2) (fun a => .tup [.wt (10 * givLo a.2.1 a.1 a.2.2), .wt (10 * givHi a.2.1 a.1 a.2.2)])
/-- what _law_shifts_right asks, in plain words -/
structure PreS (es : Ent) (b P a : Int) (w : Way) (lo hi : Int) : Prop where
  ok : OkE es
  dl : OkD b P a
  td : Told w (formF es)
  sm : lo.natAbs < 2 ^ 3000 ∧ hi.natAbs < 2 ^ 3000 ∧ (dtotF w es b P a).natAbs < 2 ^ 2900
  sl : ((leastF w es b P).getD 0 0).natAbs < 2 ^ 2900 ∧ ((greatF w es b P).getD 0 0).natAbs < 2 ^ 2900
  ri : risF [lo, 10 * (leastF w es b P).getD 0 0, 10 * dtotF w es b P a, 10 * -(greatF w es b P).getD 0 0, hi] = true
  l0 : 0 ≤ (leastF w es b P).getD 1 0 ∧ (leastF w es b P).getD 1 0 < b
  l1 : dtotF w es b P ((leastF w es b P).getD 1 0) = (leastF w es b P).getD 0 0
  g0 : 0 ≤ (greatF w es b P).getD 1 0 ∧ (greatF w es b P).getD 1 0 < b
  g1 : dtotF w es b P ((greatF w es b P).getD 1 0) = -(greatF w es b P).getD 0 0
  few : 1 ≤ (told w es b P).length ∧ (told w es b P).length ≤ 1000
  t0 : ((told w es b P).map (·.1)).head? = some ((leastF w es b P).getD 0 0)
  t1 : ((told w es b P).map (·.1)).getLast? = some (-(greatF w es b P).getD 0 0)
  su : ((told w es b P).map (·.2)).sum = b
  tm : dtotF w es b P a ∈ (told w es b P).map (·.1)
abbrev sp__law_shifts_right : Sp := spA K (fun a : Ent × Int × Int × Int × Way × Int × Int => [dE a.1, .deal a.2.1 a.2.2.1 a.2.2.2.1, .str a.2.2.2.2.1.s, .wt a.2.2.2.2.2.1, .wt a.2.2.2.2.2.2]) (fun a => PreS a.1 a.2.1 a.2.2.1 a.2.2.2.1 a.2.2.2.2.1 a.2.2.2.2.2.1 a.2.2.2.2.2.2) (fun _ => .bl true)
/-- what _law_giving_right asks -/
structure PreG (es : Ent) (w : Way) (P : Int) : Prop where
  ok : OkE es
  td : Told w es
  P0 : 0 < P
  sm : ∀ Q : Int, 0 < Q → (givLo w es Q).natAbs < 2 ^ 2900 ∧ (givHi w es Q).natAbs < 2 ^ 2900
  ri : risF [10 * givLo w es (P + 1), 10 * givLo w es P, 10 * givHi w es P, 10 * givHi w es (P + 1)] = true
  e0 : w = .he → 1 ≤ enoF (negE es) ∧ givLo w es (enoF (negE es)) = givLo w es (10 ^ 59) ∧ (1 < enoF (negE es) → givLo w es (enoF (negE es) - 1) ≠ givLo w es (10 ^ 59))
  e1 : w = .he → 1 ≤ enoF es ∧ givHi w es (enoF es) = givHi w es (10 ^ 59) ∧ (1 < enoF es → givHi w es (enoF es - 1) ≠ givHi w es (10 ^ 59))
abbrev sp__law_giving_right : Sp := spA K (fun a : Ent × Way × Int => [dE a.1, .str a.2.1.s, .int a.2.2]) (fun a => PreG a.1 a.2.1 a.2.2) (fun _ => .bl true)
end
end KX
/-! The readings of the defs. Printed by gen.py. -/
namespace KX
open PySem PySem.Spec PyProof.Rows L2
abbrev rAdd : R2 := rI0 fun i j => .int (i + j)
abbrev rSub : R2 := rI0 fun i j => .int (i - j)
abbrev rMul : R2 := rI CMulW fun i j => .int (i * j)
abbrev rFdv : R2 := rI CDivW fun i j => .int (i / j)
abbrev rMod : R2 := rI (fun _ j => 0 < j) fun i j => .int (i % j)
abbrev rPow : R2 := rI CPow fun i j => .int (i ^ j.toNat)
abbrev rNeg : V → Hp → VK → Prop := rU fun i => .int (-i)
abbrev rLt : R2 := rI0 fun i j => .bl (decide (i < j))
abbrev rLe : R2 := rI0 fun i j => .bl (decide (i ≤ j))
abbrev rGt : R2 := rI0 fun i j => .bl (decide (j < i))
abbrev rGe : R2 := rI0 fun i j => .bl (decide (j ≤ i))
abbrev rAbs : List V → Hp → VK → Prop := fun xs H Q => ∃ i, xs = [.int i] ∧ Q (.int (if i < 0 then -i else i)) H
abbrev rMax2 : List V → Hp → VK → Prop := fun xs H Q => ∃ i j, xs = [.int i, .int j] ∧ Q (.int (if j > i then j else i)) H
abbrev rMin2 : List V → Hp → VK → Prop := fun xs H Q => ∃ i j, xs = [.int i, .int j] ∧ Q (.int (if j < i then j else i)) H
/-- N = 0 value -/
def t_is_integer (w : World) (K : PySem.W.Frag) : TS := (tRet (tAndV (tCB (rIsi K) (tCons (tVar 0) (tCons (tC (.ty "int")) tNil))) (tNotV (tCB (rIsi K) (tCons (tVar 0) (tCons (tC (.ty "bool")) tNil))))))
/-- N = 0 value -/
def t_is_whole (w : World) (K : PySem.W.Frag) : TS := (tRet (tAndV (tCall (sp_is_integer K) [] E0 (tCons (tVar 0) tNil)) (tOp rGe (tVar 0) (tC (.int 0)))))
/-- N = 0 value -/
def t_need_integer (w : World) (K : PySem.W.Frag) : TS := (tIfS (tNot (tB (tCall (sp_is_integer K) [] E0 (tCons (tVar 0) tNil)))) tNever tNext)
/-- N = 0 value -/
def t_need_whole (w : World) (K : PySem.W.Frag) : TS := (tIfS (tNot (tB (tCall (sp_is_whole K) [] E0 (tCons (tVar 0) tNil)))) tNever tNext)
/-- N = 0 value -/
def t_need_positive (w : World) (K : PySem.W.Frag) : TS := (tIfS (tOr (tNot (tB (tCall (sp_is_whole K) [] E0 (tCons (tVar 0) tNil)))) (tTest (tOp rEq (tVar 0) (tC (.int 0))))) tNever tNext)
/-- N = 0 value -/
def t_need_items (w : World) (K : PySem.W.Frag) : TS := (tIfS (tNot (tB (tCB (rIsiT K) (tCons (tVar 0) (tCons (tTup (tCons (tC (.ty "list")) (tCons (tC (.ty "tuple")) tNil))) tNil))))) tNever tNext)
/-- N = 0 number 1 made 2 base -/
def t_ten_to (w : World) (K : PySem.W.Frag) : TS := (tSeq (tAsg (tTup (tCons (tC (.int 1)) (tCons (tC (.int 10)) tNil))) (gTup K 2 (gCons (gName 1) (gCons (gName 2) gNil))))
  (tSeq (tWhile (tTest (tOp rGt (tVar 0) (tC (.int 0)))) (tSeq (tIfS (tTest (tOp rEq (tOp rMod (tVar 0) (tC (.int 2))) (tC (.int 1)))) (tAsg (tOp rMul (tVar 1) (tVar 2)) (gName 1)) tNext)
  (tSeq (tAsg (tOp rMul (tVar 2) (tVar 2)) (gName 2))
  (tAsg (tOp rFdv (tVar 0) (tC (.int 2))) (gName 0)))))
  (tRet (tVar 1))))
/-- N = 0 units 1 scale -/
def t_lowered (w : World) (K : PySem.W.Frag) : TS := (tSeq (tIfS (tTest (tOp rEq (tVar 0) (tC (.int 0)))) (tRet (tTup (tCons (tC (.int 0)) (tCons (tC (.int 0)) tNil)))) tNext)
  (tSeq (tWhile (tAnd (tTest (tOp rGt (tVar 1) (tC (.int 0)))) (tTest (tOp rEq (tOp rMod (tVar 0) (tC (.int 10))) (tC (.int 0))))) (tPar 0 1 (tCons (tOp rFdv (tVar 0) (tC (.int 10))) (tCons (tOp rSub (tVar 1) (tC (.int 1))) tNil))))
  (tRet (tTup (tCons (tVar 0) (tCons (tVar 1) tNil))))))
/-- N = 0 self 1 units 2 scale -/
def t_Worth___init__ (w : World) (K : PySem.W.Frag) : TS := (tSeq (tDrop (tCall (sp_need_integer K) [] E0 (tCons (tVar 1) tNil)))
  (tSeq (tDrop (tCall (sp_need_whole K) [] E0 (tCons (tVar 2) tNil)))
  (tAsg (tCall (sp_lowered K) [] E0 (tCons (tVar 1) (tCons (tVar 2) tNil))) (gTup K 2 (gCons (gFld K (tVar 0) "units") (gCons (gFld K (tVar 0) "scale") gNil))))))
/-- N = 0 self 1 other -/
def t_Worth___eq__ (w : World) (K : PySem.W.Frag) : TS := (tSeq (tIfS (tNot (tB (tCB (rIsi K) (tCons (tVar 1) (tCons (tC (.ref (cW K))) tNil))))) (tRet (tC (.bl false))) tNext)
  (tRet (tOp (rEqD K) (tTup (tCons (tFld K (tVar 0) "units") (tCons (tFld K (tVar 0) "scale") tNil))) (tTup (tCons (tFld K (tVar 1) "units") (tCons (tFld K (tVar 1) "scale") tNil))))))
/-- N = 0 self -/
def t_Worth___neg__ (w : World) (K : PySem.W.Frag) : TS := (tRet (tMake (cW K) (spWI K) [] E0 (tCons (tUn rNeg (tFld K (tVar 0) "units")) (tCons (tFld K (tVar 0) "scale") tNil))))
/-- N = 0 self -/
def t_Worth_sign (w : World) (K : PySem.W.Frag) : TS := (tRet (tOp rSub (tCB rInt1 (tCons (tOp rGt (tFld K (tVar 0) "units") (tC (.int 0))) tNil)) (tCB rInt1 (tCons (tOp rLt (tFld K (tVar 0) "units") (tC (.int 0))) tNil))))
/-- N = 0 self 1 scale -/
def t_Worth_units_at (w : World) (K : PySem.W.Frag) : TS := (tSeq (tDrop (tCall (sp_need_whole K) [] E0 (tCons (tVar 1) tNil)))
  (tSeq (tIfS (tTest (tOp rLt (tVar 1) (tFld K (tVar 0) "scale"))) tNever tNext)
  (tRet (tOp rMul (tFld K (tVar 0) "units") (tCall (sp_ten_to K) [] E0 (tCons (tOp rSub (tVar 1) (tFld K (tVar 0) "scale")) tNil))))))
/-- N = 0 value -/
def t_need_worth (w : World) (K : PySem.W.Frag) : TS := (tIfS (tNot (tB (tCB (rIsi K) (tCons (tVar 0) (tCons (tC (.ref (cW K))) tNil))))) tNever tNext)
/-- N = 0 one 1 other 2 sign 3 scale 4 units -/
def t_worth_sum (w : World) (K : PySem.W.Frag) : TS := (tSeq (tAsg (tCB rMax2 (tCons (tFld K (tVar 0) "scale") (tCons (tFld K (tVar 1) "scale") tNil))) (gName 3))
  (tSeq (tAsg (tOp rMul (tFld K (tVar 0) "units") (tCall (sp_ten_to K) [] E0 (tCons (tOp rSub (tVar 3) (tFld K (tVar 0) "scale")) tNil))) (gName 4))
  (tRet (tMake (cW K) (spWI K) [] E0 (tCons (tOp rAdd (tVar 4) (tOp rMul (tOp rMul (tVar 2) (tFld K (tVar 1) "units")) (tCall (sp_ten_to K) [] E0 (tCons (tOp rSub (tVar 3) (tFld K (tVar 1) "scale")) tNil)))) (tCons (tVar 3) tNil))))))
/-- N = 0 one 1 other -/
def t_compare (w : World) (K : PySem.W.Frag) : TS := (tSeq (tDrop (tCall (sp_need_worth K) [] E0 (tCons (tVar 0) tNil)))
  (tSeq (tDrop (tCall (sp_need_worth K) [] E0 (tCons (tVar 1) tNil)))
  (tRet (tMeth (cW K) "sign" (sp_Worth_sign K) [] E0 (tCall (sp_worth_sum K) [] E0 (tCons (tVar 0) (tCons (tVar 1) (tCons (tUn rNeg (tC (.int 1))) tNil)))) tNil))))
/-- N = 0 value -/
def t_need_way (w : World) (K : PySem.W.Frag) : TS := (tIfS (tTest (tOp (rIn K true) (tVar 0) (tC (.ref (He.ga K "WAYS"))))) tNever tNext)
/-- N = 0 way 1 part 2 negative 3 odd 4 ties -/
def t_lift (w : World) (K : PySem.W.Frag) : TS := (tSeq (tIfS (tOr (tTest (tOp rEq (tVar 1) (tC (.int 0)))) (tTest (tOp rEq (tVar 0) (tC (.str "floor"))))) (tRet (tC (.int 0))) tNext)
  (tSeq (tIfS (tTest (tOp rEq (tVar 0) (tC (.str "ceiling")))) (tRet (tC (.int 1))) tNext)
  (tSeq (tIfS (tTest (tOp rEq (tVar 0) (tC (.str "cut")))) (tRet (tCB rInt1 (tCons (tVar 2) tNil))) tNext)
  (tSeq (tIfS (tTest (tOp rEq (tVar 0) (tC (.str "away")))) (tRet (tCB rInt1 (tCons (tNotV (tVar 2)) tNil))) tNext)
  (tSeq (tIfS (tTest (tOp rNe (tVar 1) (tC (.int 2)))) (tRet (tCB rInt1 (tCons (tOp rEq (tVar 1) (tC (.int 3))) tNil))) tNext)
  (tSeq (tAsg (tDisp [((tC (.str "halfup")), (tC (.bl true))), ((tC (.str "halfdown")), (tC (.bl false))), ((tC (.str "halfeven")), (tVar 3)), ((tC (.str "halfaway")), (tNotV (tVar 2))), ((tC (.str "halfcut")), (tVar 2))]) (gName 4))
  (tRet (tCB rInt1 (tCons (tDGet (tVar 4) (tVar 0)) tNil)))))))))
/-- N = 0 left 1 divisor -/
def t_part_of (w : World) (K : PySem.W.Frag) : TS := (tSeq (tIfS (tTest (tOp rEq (tVar 0) (tC (.int 0)))) (tRet (tC (.int 0))) tNext)
  (tRet (tOp rSub (tOp rAdd (tC (.int 2)) (tCB rInt1 (tCons (tOp rGt (tOp rMul (tC (.int 2)) (tVar 0)) (tVar 1)) tNil))) (tCB rInt1 (tCons (tOp rLt (tOp rMul (tC (.int 2)) (tVar 0)) (tVar 1)) tNil)))))
/-- N = 0 number 1 divisor 2 way 3 low 4 left -/
def t_divided_by (w : World) (K : PySem.W.Frag) : TS := (tSeq (tAsg (tCB rDivmod (tCons (tVar 0) (tCons (tVar 1) tNil))) (gTup K 2 (gCons (gName 3) (gCons (gName 4) gNil))))
  (tRet (tOp rAdd (tVar 3) (tCall (sp_lift K) [] E0 (tCons (tVar 2) (tCons (tCall (sp_part_of K) [] E0 (tCons (tVar 4) (tCons (tVar 1) tNil))) (tCons (tOp rLt (tVar 0) (tC (.int 0))) (tCons (tOp rEq (tOp rMod (tVar 3) (tC (.int 2))) (tC (.int 1))) tNil))))))))
/-- N = 0 value -/
def t_is_entry (w : World) (K : PySem.W.Frag) : TS := (tSeq (tIfS (tOr (tNot (tB (tCB (rIsiT K) (tCons (tVar 0) (tCons (tTup (tCons (tC (.ty "list")) (tCons (tC (.ty "tuple")) tNil))) tNil))))) (tTest (tOp rNe (tCB (rLenQ K) (tCons (tVar 0) tNil)) (tC (.int 2))))) (tRet (tC (.bl false))) tNext)
  (tRet (tAndV (tCB (rIsi K) (tCons (tOp (rIxT K) (tVar 0) (tC (.int 0))) (tCons (tC (.ref (cW K))) tNil))) (tCall (sp_is_whole K) [] E0 (tCons (tOp (rIxT K) (tVar 0) (tC (.int 1))) tNil)))))
/-- N = 0 entries 1 entry -/
def t_need_entries (w : World) (K : PySem.W.Frag) : TS := (tSeq (tDrop (tCall (sp_need_items K) [] E0 (tCons (tVar 0) tNil)))
  (tFor (iList K (tVar 0)) (gName 1) (tIfS (tNot (tB (tCall (sp_is_entry K) [] E0 (tCons (tVar 1) tNil)))) tNever tNext)))
/-- N = 0 entries 1 scale 2 way -/
def t_need_asked (w : World) (K : PySem.W.Frag) : TS := (tSeq (tDrop (tCall (sp_need_entries K) [] E0 (tCons (tVar 0) tNil)))
  (tSeq (tDrop (tCall (sp_need_whole K) [] E0 (tCons (tVar 1) tNil)))
  (tDrop (tCall (sp_need_way K) [] E0 (tCons (tVar 2) tNil)))))
/-- N = 0 worth 1 scale -/
def t_in_parts (w : World) (K : PySem.W.Frag) : TS := (tSeq (tIfS (tTest (tOp rLe (tFld K (tVar 0) "scale") (tVar 1))) (tRet (tTup (tCons (tMeth (cW K) "units_at" (sp_Worth_units_at K) [] E0 (tVar 0) (tCons (tVar 1) tNil)) (tCons (tC (.int 1)) tNil)))) tNext)
  (tRet (tTup (tCons (tFld K (tVar 0) "units") (tCons (tCall (sp_ten_to K) [] E0 (tCons (tOp rSub (tFld K (tVar 0) "scale") (tVar 1)) tNil)) tNil)))))
/-- N = 0 worth 1 scale 2 way 3 number 4 unit 5 floor 6 left 7 loose -/
def t_loose_parts (w : World) (K : PySem.W.Frag) : TS := (tSeq (tAsg (tCall (sp_in_parts K) [] E0 (tCons (tVar 0) (tCons (tVar 1) tNil))) (gTup K 2 (gCons (gName 3) (gCons (gName 4) gNil))))
  (tSeq (tAsg (tCB rDivmod (tCons (tVar 3) (tCons (tVar 4) tNil))) (gTup K 2 (gCons (gName 5) (gCons (gName 6) gNil))))
  (tSeq (tIfS (tTest (tOp (rIn K false) (tVar 2) (tTup (tCons (tC (.str "cut")) (tCons (tC (.str "away")) tNil))))) (tAsg (tOp rNe (tVar 6) (tC (.int 0))) (gName 7)) (tAsg (tAndV (tOp (rIn K false) (tVar 2) (tTup (tCons (tC (.str "halfeven")) (tCons (tC (.str "halfaway")) (tCons (tC (.str "halfcut")) tNil))))) (tOp rEq (tOp rMul (tC (.int 2)) (tVar 6)) (tVar 4))) (gName 7)))
  (tRet (tTup (tCons (tVar 7) (tCons (tIf (tB (tVar 7)) (tVar 5) (tCall (sp_divided_by K) [] E0 (tCons (tVar 3) (tCons (tVar 4) (tCons (tVar 2) tNil))))) tNil)))))))
/-- N = 0 state 1 loose 2 units 3 way -/
def t_added (w : World) (K : PySem.W.Frag) : TS := (tSeq (tIfS (tNot (tB (tVar 1))) (tRet (tOp rAdd (tVar 0) (tVar 2))) tNext)
  (tSeq (tIfS (tTest (tOp rEq (tVar 3) (tC (.str "halfeven")))) (tRet (tOp rAdd (tOp rAdd (tVar 0) (tVar 2)) (tOp rMod (tOp rAdd (tVar 0) (tVar 2)) (tC (.int 2))))) tNext)
  (tRet (tOp rAdd (tOp rAdd (tVar 0) (tVar 2)) (tCB rInt1 (tCons (tOp rEq (tOp rLt (tOp rAdd (tVar 0) (tVar 2)) (tC (.int 0))) (tOp (rIn K false) (tVar 3) (tC (.ref (He.ga K "LOWERING"))))) tNil))))))
/-- N = 0 state 1 units 2 times 3 way 4 gap 5 step 6 other 7 turns -/
def t_added_often (w : World) (K : PySem.W.Frag) : TS := (tSeq (tIfS (tTest (tOp rEq (tVar 3) (tC (.str "halfeven")))) (tRet (tOp rAdd (tCall (sp_added K) [] E0 (tCons (tVar 0) (tCons (tC (.bl true)) (tCons (tVar 1) (tCons (tVar 3) tNil))))) (tOp rMul (tOp rSub (tVar 2) (tC (.int 1))) (tOp rAdd (tVar 1) (tOp rMod (tVar 1) (tC (.int 2))))))) tNext)
  (tSeq (tAsg (tOp rAdd (tVar 0) (tVar 1)) (gName 4))
  (tSeq (tAsg (tOp rSub (tCall (sp_added K) [] E0 (tCons (tVar 0) (tCons (tC (.bl true)) (tCons (tVar 1) (tCons (tVar 3) tNil))))) (tVar 0)) (gName 5))
  (tSeq (tPar 6 7 (tCons (tOp rSub (tOp rAdd (tOp rMul (tC (.int 2)) (tVar 1)) (tC (.int 1))) (tVar 5)) (tCons (tVar 2) tNil)))
  (tSeq (tIfS (tAnd (tTest (tOp rGe (tVar 4) (tC (.int 0)))) (tTest (tOp rLt (tVar 5) (tC (.int 0))))) (tAsg (tCB rMin2 (tCons (tVar 2) (tCons (tOp rAdd (tOp rFdv (tVar 4) (tUn rNeg (tVar 5))) (tC (.int 1))) tNil))) (gName 7)) tNext)
  (tSeq (tIfS (tAnd (tTest (tOp rLt (tVar 4) (tC (.int 0)))) (tTest (tOp rGt (tVar 5) (tC (.int 0))))) (tAsg (tCB rMin2 (tCons (tVar 2) (tCons (tOp rFdv (tOp rSub (tOp rSub (tVar 5) (tC (.int 1))) (tVar 4)) (tVar 5)) tNil))) (gName 7)) tNext)
  (tRet (tOp rAdd (tOp rAdd (tVar 0) (tOp rMul (tVar 7) (tVar 5))) (tOp rMul (tOp rSub (tVar 2) (tVar 7)) (tVar 6))))))))))
/-- N = 0 entries 1 scale 2 way 3 state 4 worth 5 times 6 loose 7 units -/
def t_running_units (w : World) (K : PySem.W.Frag) : TS := (tSeq (tAsg (tC (.int 0)) (gName 3))
  (tSeq (tFor (iList K (tVar 0)) (gTup K 2 (gCons (gName 4) (gCons (gName 5) gNil))) (tSeq (tAsg (tCall (sp_loose_parts K) [] E0 (tCons (tVar 4) (tCons (tVar 1) (tCons (tVar 2) tNil)))) (gTup K 2 (gCons (gName 6) (gCons (gName 7) gNil))))
  (tIfS (tNot (tB (tVar 6))) (tAug 3 (tOp rMul (tVar 5) (tVar 7)) (ipI fun i j => i + j)) (tIfS (tTest (tOp rGt (tVar 5) (tC (.int 0)))) (tAsg (tCall (sp_added_often K) [] E0 (tCons (tVar 3) (tCons (tVar 7) (tCons (tVar 5) (tCons (tVar 2) tNil))))) (gName 3)) tNext))))
  (tRet (tVar 3))))
/-- N = 0 entries 1 scale 2 way 3 there 4 signs 5 worth 6 times -/
def t_free_entries (w : World) (K : PySem.W.Frag) : TS := (tSeq (tAsg (tLc (iList K (tVar 0)) (gTup K 2 (gCons (gName 5) (gCons (gName 6) gNil))) (tTest (tOp rGt (tVar 6) (tC (.int 0)))) (tVar 5) [5, 6]) (gName 3))
  (tSeq (tIfS (tNot (tB (tCB (rAny K) (tCons (tLc (iList K (tVar 3)) (gName 5) tYes (tOp (rIxT K) (tCall (sp_loose_parts K) [] E0 (tCons (tVar 5) (tCons (tVar 1) (tCons (tVar 2) tNil)))) (tC (.int 0))) [5]) tNil)))) (tRet (tC (.bl true))) tNext)
  (tSeq (tAsg (tLc (iList K (tVar 3)) (gName 5) tYes (tMeth (cW K) "sign" (sp_Worth_sign K) [] E0 (tVar 5) tNil) [5]) (gName 4))
  (tRet (tAndV (tOp (rIn K false) (tVar 2) (tC (.ref (He.ga K "SIDED")))) (tOrV (tOp rGe (tCB (rMin K) (tCons (tVar 4) tNil)) (tC (.int 0))) (tOp rLe (tCB (rMax K) (tCons (tVar 4) tNil)) (tC (.int 0)))))))))
/-- N = 0 entries 1 scale 2 way 3 total 4 worth 5 times 6 number 7 unit -/
def t_single_total (w : World) (K : PySem.W.Frag) : TS := (tSeq (tDrop (tCall (sp_need_asked K) [] E0 (tCons (tVar 0) (tCons (tVar 1) (tCons (tVar 2) tNil)))))
  (tSeq (tAsg (tC (.int 0)) (gName 3))
  (tSeq (tFor (iList K (tVar 0)) (gTup K 2 (gCons (gName 4) (gCons (gName 5) gNil))) (tSeq (tAsg (tCall (sp_in_parts K) [] E0 (tCons (tVar 4) (tCons (tVar 1) tNil))) (gTup K 2 (gCons (gName 6) (gCons (gName 7) gNil))))
  (tAug 3 (tOp rMul (tVar 5) (tCall (sp_divided_by K) [] E0 (tCons (tVar 6) (tCons (tVar 7) (tCons (tVar 2) tNil))))) (ipI fun i j => i + j))))
  (tRet (tMake (cW K) (spWI K) [] E0 (tCons (tVar 3) (tCons (tVar 1) tNil)))))))
/-- N = 0 entries 1 scale 2 way -/
def t_running_total (w : World) (K : PySem.W.Frag) : TS := (tSeq (tDrop (tCall (sp_need_asked K) [] E0 (tCons (tVar 0) (tCons (tVar 1) (tCons (tVar 2) tNil)))))
  (tRet (tMake (cW K) (spWI K) [] E0 (tCons (tCall (sp_running_units K) [] E0 (tCons (tVar 0) (tCons (tVar 1) (tCons (tVar 2) tNil)))) (tCons (tVar 1) tNil)))))
/-- N = 0 entries 1 scale 2 way -/
def t_is_free (w : World) (K : PySem.W.Frag) : TS := (tSeq (tDrop (tCall (sp_need_asked K) [] E0 (tCons (tVar 0) (tCons (tVar 1) (tCons (tVar 2) tNil)))))
  (tRet (tCall (sp_free_entries K) [] E0 (tCons (tVar 0) (tCons (tVar 1) (tCons (tVar 2) tNil))))))
/-- N = 0 entries 1 scale 2 base 3 even 4 odd 5 turns 6 worth 7 times 8 loose 9 units -/
def t_even_ends (w : World) (K : PySem.W.Frag) : TS := (tSeq (tAsg (tTup (tCons (tC (.int 0)) (tCons (tC (.int 0)) (tCons (tC (.int 0)) (tCons (tC (.int 0)) tNil))))) (gTup K 4 (gCons (gName 2) (gCons (gName 3) (gCons (gName 4) (gCons (gName 5) gNil))))))
  (tSeq (tFor (iList K (tVar 0)) (gTup K 2 (gCons (gName 6) (gCons (gName 7) gNil))) (tSeq (tAsg (tCall (sp_loose_parts K) [] E0 (tCons (tVar 6) (tCons (tVar 1) (tCons (tC (.str "halfeven")) tNil)))) (gTup K 2 (gCons (gName 8) (gCons (gName 9) gNil))))
  (tSeq (tAug 2 (tOp rMul (tVar 7) (tVar 9)) (ipI fun i j => i + j))
  (tIfS (tNot (tB (tVar 8))) (tAug 5 (tOp rMul (tVar 7) (tOp rMod (tVar 9) (tC (.int 2)))) (ipI fun i j => i + j)) (tIfS (tTest (tOp rEq (tOp rMod (tVar 9) (tC (.int 2))) (tC (.int 0)))) (tAug 3 (tVar 7) (ipI fun i j => i + j)) (tAug 4 (tVar 7) (ipI fun i j => i + j)))))))
  (tRet (tTup (tCons (tOp rSub (tOp rAdd (tVar 2) (tVar 4)) (tCB rMin2 (tCons (tVar 4) (tCons (tVar 5) tNil)))) (tCons (tOp rAdd (tOp rAdd (tVar 2) (tVar 4)) (tCB rMin2 (tCons (tVar 3) (tCons (tVar 5) tNil)))) tNil))))))
/-- N = 0 entries 1 scale 2 way 3 ahead 4 total 5 room 6 costs 7 worth 8 times 9 loose 10 units 11 cost 12 most -/
def t_sided_top (w : World) (K : PySem.W.Frag) : TS := (tSeq (tAsg (tIf (tTest (tOp (rIn K false) (tVar 2) (tC (.ref (He.ga K "LOWERING"))))) (tUn rNeg (tC (.int 1))) (tC (.int 1))) (gName 3))
  (tSeq (tPar3 4 5 6 (tCons (tC (.int 0)) (tCons (tUn rNeg (tCB rInt1 (tCons (tOp rEq (tVar 3) (tC (.int 1))) tNil))) (tCons (tLst tNil) tNil))))
  (tSeq (tFor (iList K (tVar 0)) (gTup K 2 (gCons (gName 7) (gCons (gName 8) gNil))) (tSeq (tAsg (tCall (sp_loose_parts K) [] E0 (tCons (tVar 7) (tCons (tVar 1) (tCons (tVar 2) tNil)))) (gTup K 2 (gCons (gName 9) (gCons (gName 10) gNil))))
  (tSeq (tAug 4 (tOp rMul (tVar 8) (tVar 10)) (ipI fun i j => i + j))
  (tIfS (tTest (tOp rEq (tMeth (cW K) "sign" (sp_Worth_sign K) [] E0 (tVar 7) tNil) (tVar 3))) (tSeq (tAug 4 (tOp rMul (tVar 8) (tCB rInt1 (tCons (tVar 9) tNil))) (ipI fun i j => i + j))
  (tAug 5 (tOp rMul (tVar 8) (tCB rAbs (tCons (tOp rAdd (tVar 10) (tCB rInt1 (tCons (tVar 9) tNil))) tNil))) (ipI fun i j => i + j))) (tIfS (tB (tVar 9)) (tDrop (tBM K "list" rAppend (tVar 6) (tCons (tTup (tCons (tCB rAbs (tCons (tOp rAdd (tVar 10) (tC (.int 1))) tNil)) (tCons (tVar 8) tNil))) tNil))) tNext)))))
  (tSeq (tIfS (tTest (tOp rLt (tVar 5) (tC (.int 0)))) (tRet (tVar 4)) tNext)
  (tSeq (tFor (iList K (tCB (rSortT K) (tCons (tVar 6) tNil))) (gTup K 2 (gCons (gName 11) (gCons (gName 8) gNil))) (tSeq (tAsg (tIf (tTest (tOp rEq (tVar 11) (tC (.int 0)))) (tVar 8) (tCB rMin2 (tCons (tVar 8) (tCons (tOp rFdv (tVar 5) (tVar 11)) tNil)))) (gName 12))
  (tPar 4 5 (tCons (tOp rAdd (tVar 4) (tVar 12)) (tCons (tOp rSub (tVar 5) (tOp rMul (tVar 12) (tVar 11))) tNil)))))
  (tRet (tVar 4)))))))
/-- N = 0 entries 1 scale 2 way 3 low 4 high 5 worth 6 times -/
def t_order_range (w : World) (K : PySem.W.Frag) : TS := (tSeq (tDrop (tCall (sp_need_asked K) [] E0 (tCons (tVar 0) (tCons (tVar 1) (tCons (tVar 2) tNil)))))
  (tSeq (tIfS (tTest (tOp rEq (tVar 2) (tC (.str "halfeven")))) (tAsg (tCall (sp_even_ends K) [] E0 (tCons (tVar 0) (tCons (tVar 1) tNil))) (gTup K 2 (gCons (gName 3) (gCons (gName 4) gNil)))) (tIfS (tTest (tOp (rIn K false) (tVar 2) (tC (.ref (He.ga K "SIDED"))))) (tSeq (tAsg (tUn rNeg (tCall (sp_sided_top K) [] E0 (tCons (tLc (iList K (tVar 0)) (gTup K 2 (gCons (gName 5) (gCons (gName 6) gNil))) tYes (tTup (tCons (tUn (rNegWt K) (tVar 5)) (tCons (tVar 6) tNil))) [5, 6]) (tCons (tVar 1) (tCons (tVar 2) tNil))))) (gName 3))
  (tAsg (tCall (sp_sided_top K) [] E0 (tCons (tVar 0) (tCons (tVar 1) (tCons (tVar 2) tNil)))) (gName 4))) (tSeq (tAsg (tCall (sp_running_units K) [] E0 (tCons (tVar 0) (tCons (tVar 1) (tCons (tVar 2) tNil)))) (gName 3))
  (tAsg (tVar 3) (gName 4)))))
  (tRet (tTup (tCons (tMake (cW K) (spWI K) [] E0 (tCons (tVar 3) (tCons (tVar 1) tNil))) (tCons (tMake (cW K) (spWI K) [] E0 (tCons (tVar 4) (tCons (tVar 1) tNil))) tNil))))))
/-- N = 0 entries 1 scale 2 base 3 runs 4 worth 5 times 6 loose 7 units -/
def t_even_runs (w : World) (K : PySem.W.Frag) : TS := (tSeq (tPar 2 3 (tCons (tC (.int 0)) (tCons (tLst tNil) tNil)))
  (tSeq (tFor (iList K (tVar 0)) (gTup K 2 (gCons (gName 4) (gCons (gName 5) gNil))) (tSeq (tAsg (tCall (sp_loose_parts K) [] E0 (tCons (tVar 4) (tCons (tVar 1) (tCons (tC (.str "halfeven")) tNil)))) (gTup K 2 (gCons (gName 6) (gCons (gName 7) gNil))))
  (tSeq (tAug 2 (tOp rMul (tVar 5) (tVar 7)) (ipI fun i j => i + j))
  (tIfS (tAnd (tB (tVar 6)) (tTest (tOp rGt (tVar 5) (tC (.int 0))))) (tSeq (tAug 2 (tOp rMul (tVar 5) (tOp rMod (tVar 7) (tC (.int 2)))) (ipI fun i j => i + j))
  (tDrop (tBM K "list" rAppend (tVar 3) (tCons (tTup (tCons (tIf (tTest (tOp rEq (tOp rMod (tVar 7) (tC (.int 2))) (tC (.int 1)))) (tC (.str "odd")) (tC (.str "even"))) (tCons (tVar 5) tNil))) tNil)))) (tIfS (tAnd (tTest (tOp rEq (tOp rMod (tVar 7) (tC (.int 2))) (tC (.int 1)))) (tTest (tOp rGt (tVar 5) (tC (.int 0))))) (tIfS (tAnd (tTru K (tVar 3)) (tTest (tOp rEq (tOp (rIxT K) (tOp (rIxL K) (tVar 3) (tUn rNeg (tC (.int 1)))) (tC (.int 0))) (tC (.str "turn"))))) (tAsg (tTup (tCons (tC (.str "turn")) (tCons (tOp rAdd (tOp (rIxT K) (tOp (rIxL K) (tVar 3) (tUn rNeg (tC (.int 1)))) (tC (.int 1))) (tVar 5)) tNil))) (gSub (tVar 3) (tUn rNeg (tC (.int 1))) rSetL)) (tDrop (tBM K "list" rAppend (tVar 3) (tCons (tTup (tCons (tC (.str "turn")) (tCons (tVar 5) tNil))) tNil)))) tNext)))))
  (tRet (tTup (tCons (tVar 2) (tCons (tVar 3) tNil))))))
/-- N = 0 odd 1 times 2 houses 3 avoids 4 most -/
def t_odd_houses (w : World) (K : PySem.W.Frag) : TS := (tSeq (tAsg (tCB rMin2 (tCons (tVar 2) (tCons (tOp rAdd (tVar 0) (tVar 1)) tNil))) (gName 4))
  (tSeq (tAug 4 (tOp rMod (tOp rSub (tOp rAdd (tVar 0) (tVar 1)) (tVar 4)) (tC (.int 2))) (ipI fun i j => i - j))
  (tRet (tIf (tAnd (tB (tVar 3)) (tAnd (tTest (tOp rEq (tVar 4) (tVar 2))) (tTest (tOp rGt (tVar 2) (tC (.int 1)))))) (tOp rSub (tVar 4) (tC (.int 2))) (tVar 4)))))
/-- N = 0 entries 1 scale 2 houses 3 total 4 runs 5 odd 6 index 7 sort 8 times 9 avoids 10 hits -/
def t_best_given (w : World) (K : PySem.W.Frag) : TS := (tSeq (tAsg (tCall (sp_even_runs K) [] E0 (tCons (tVar 0) (tCons (tVar 1) tNil))) (gTup K 2 (gCons (gName 3) (gCons (gName 4) gNil))))
  (tSeq (tAsg (tC (.int 0)) (gName 5))
  (tSeq (tFor (iEnum K (tCons (tVar 4) tNil)) (gTup K 2 (gCons (gName 6) (gCons (gTup K 2 (gCons (gName 7) (gCons (gName 8) gNil))) gNil))) (tIfS (tTest (tOp rEq (tVar 7) (tC (.str "turn")))) (tSeq (tAsg (tAndV (tOp rLt (tOp rAdd (tVar 6) (tC (.int 1))) (tCB (rLenQ K) (tCons (tVar 4) tNil))) (tOp rEq (tOp (rIxT K) (tOp (rIxL K) (tVar 4) (tOp rAdd (tVar 6) (tC (.int 1)))) (tC (.int 0))) (tC (.str "odd")))) (gName 9))
  (tAsg (tCall (sp_odd_houses K) [] E0 (tCons (tVar 5) (tCons (tVar 8) (tCons (tVar 2) (tCons (tVar 9) tNil))))) (gName 5))) (tIfS (tTest (tOp rEq (tVar 7) (tC (.str "even")))) (tSeq (tAsg (tCB rMin2 (tCons (tVar 5) (tCons (tVar 8) tNil))) (gName 10))
  (tPar 3 5 (tCons (tOp rAdd (tVar 3) (tVar 10)) (tCons (tOp rSub (tVar 5) (tVar 10)) tNil)))) (tIfS (tAnd (tTest (tOp rEq (tVar 2) (tC (.int 1)))) (tTest (tOp rEq (tVar 5) (tC (.int 1))))) (tPar 3 5 (tCons (tOp rSub (tVar 3) (tC (.int 1))) (tCons (tC (.int 0)) tNil))) tNext))))
  (tRet (tVar 3)))))
/-- N = 0 entries 1 worth 2 times -/
def t_negated (w : World) (K : PySem.W.Frag) : TS := (tRet (tLc (iList K (tVar 0)) (gTup K 2 (gCons (gName 1) (gCons (gName 2) gNil))) tYes (tTup (tCons (tUn (rNegWt K) (tVar 1)) (tCons (tVar 2) tNil))) [1, 2]))
/-- N = 0 entries 1 scale 2 way -/
def t_need_told_giving (w : World) (K : PySem.W.Frag) : TS := (tIfS (tAnd (tTest (tOp rNe (tVar 2) (tC (.str "halfeven")))) (tNot (tB (tCall (sp_free_entries K) [] E0 (tCons (tVar 0) (tCons (tVar 1) (tCons (tVar 2) tNil))))))) tNever tNext)
/-- N = 0 entries 1 scale 2 way 3 houses 4 low 5 high -/
def t_given_range (w : World) (K : PySem.W.Frag) : TS := (tSeq (tDrop (tCall (sp_need_asked K) [] E0 (tCons (tVar 0) (tCons (tVar 1) (tCons (tVar 2) tNil)))))
  (tSeq (tDrop (tCall (sp_need_positive K) [] E0 (tCons (tVar 3) tNil)))
  (tSeq (tDrop (tCall (sp_need_told_giving K) [] E0 (tCons (tVar 0) (tCons (tVar 1) (tCons (tVar 2) tNil)))))
  (tSeq (tIfS (tTest (tOp rEq (tVar 2) (tC (.str "halfeven")))) (tPar 4 5 (tCons (tUn rNeg (tCall (sp_best_given K) [] E0 (tCons (tCall (sp_negated K) [] E0 (tCons (tVar 0) tNil)) (tCons (tVar 1) (tCons (tVar 3) tNil))))) (tCons (tCall (sp_best_given K) [] E0 (tCons (tVar 0) (tCons (tVar 1) (tCons (tVar 3) tNil)))) tNil))) (tSeq (tAsg (tCall (sp_running_units K) [] E0 (tCons (tVar 0) (tCons (tVar 1) (tCons (tVar 2) tNil)))) (gName 4))
  (tAsg (tVar 4) (gName 5))))
  (tRet (tTup (tCons (tMake (cW K) (spWI K) [] E0 (tCons (tVar 4) (tCons (tVar 1) tNil))) (tCons (tMake (cW K) (spWI K) [] E0 (tCons (tVar 5) (tCons (tVar 1) tNil))) tNil))))))))
/-- N = 0 entries 1 scale 2 low 3 high 4 best 5 middle 6 worth 7 times -/
def t_enough (w : World) (K : PySem.W.Frag) : TS := (tSeq (tPar 2 3 (tCons (tC (.int 1)) (tCons (tOp rAdd (tC (.int 2)) (tCB (rSum K) (tCons (tLc (iList K (tVar 0)) (gTup K 2 (gCons (gName 6) (gCons (gName 7) gNil))) tYes (tCB rInt1 (tCons (tVar 7) tNil)) [6, 7]) tNil))) tNil)))
  (tSeq (tAsg (tCall (sp_best_given K) [] E0 (tCons (tVar 0) (tCons (tVar 1) (tCons (tVar 3) tNil)))) (gName 4))
  (tSeq (tWhile (tTest (tOp rLt (tVar 2) (tVar 3))) (tSeq (tAsg (tOp rFdv (tOp rAdd (tVar 2) (tVar 3)) (tC (.int 2))) (gName 5))
  (tIfS (tTest (tOp rEq (tCall (sp_best_given K) [] E0 (tCons (tVar 0) (tCons (tVar 1) (tCons (tVar 5) tNil)))) (tVar 4))) (tAsg (tVar 5) (gName 3)) (tAsg (tOp rAdd (tVar 5) (tC (.int 1))) (gName 2)))))
  (tRet (tVar 2)))))
/-- N = 0 entries 1 scale 2 way -/
def t_houses_enough (w : World) (K : PySem.W.Frag) : TS := (tSeq (tDrop (tCall (sp_need_asked K) [] E0 (tCons (tVar 0) (tCons (tVar 1) (tCons (tVar 2) tNil)))))
  (tSeq (tDrop (tCall (sp_need_told_giving K) [] E0 (tCons (tVar 0) (tCons (tVar 1) (tCons (tVar 2) tNil)))))
  (tSeq (tIfS (tTest (tOp rNe (tVar 2) (tC (.str "halfeven")))) (tRet (tTup (tCons (tC (.int 1)) (tCons (tC (.int 1)) tNil)))) tNext)
  (tRet (tTup (tCons (tCall (sp_enough K) [] E0 (tCons (tCall (sp_negated K) [] E0 (tCons (tVar 0) tNil)) (tCons (tVar 1) tNil))) (tCons (tCall (sp_enough K) [] E0 (tCons (tVar 0) (tCons (tVar 1) tNil))) tNil)))))))
/-- N = 0 period 1 length 2 bound -/
def t_below (w : World) (K : PySem.W.Frag) : TS := (tRet (tOp rAdd (tOp rMul (tVar 1) (tOp rFdv (tVar 2) (tVar 0))) (tCB rMin2 (tCons (tOp rMod (tCB rInt1 (tCons (tVar 2) tNil)) (tVar 0)) (tCons (tCB rInt1 (tCons (tVar 1) tNil)) tNil)))))
/-- N = 0 self 1 block 2 houses 3 shift -/
def t_Deal___init__ (w : World) (K : PySem.W.Frag) : TS := (tSeq (tDrop (tCall (sp_need_positive K) [] E0 (tCons (tVar 1) tNil)))
  (tSeq (tDrop (tCall (sp_need_positive K) [] E0 (tCons (tVar 2) tNil)))
  (tSeq (tDrop (tCall (sp_need_integer K) [] E0 (tCons (tVar 3) tNil)))
  (tSeq (tAsg (tVar 2) (gFld K (tVar 0) "houses"))
  (tSeq (tAsg (tIf (tTest (tOp rGt (tVar 2) (tC (.int 1)))) (tVar 1) (tC (.int 1))) (gFld K (tVar 0) "block"))
  (tAsg (tOp rMod (tVar 3) (tOp rMul (tFld K (tVar 0) "block") (tVar 2))) (gFld K (tVar 0) "shift")))))))
/-- N = 0 self -/
def t_Deal_turn (w : World) (K : PySem.W.Frag) : TS := (tRet (tOp rMul (tFld K (tVar 0) "block") (tFld K (tVar 0) "houses")))
/-- N = 0 value -/
def t_need_deal (w : World) (K : PySem.W.Frag) : TS := (tIfS (tNot (tB (tCB (rIsi K) (tCons (tVar 0) (tCons (tC (.ref (cD K))) tNil))))) tNever tNext)
/-- N = 0 entries 1 found 2 worth 3 times -/
def t_form_of (w : World) (K : PySem.W.Frag) : TS := (tSeq (tAsg (tLst tNil) (gName 1))
  (tSeq (tFor (iList K (tVar 0)) (gTup K 2 (gCons (gName 2) (gCons (gName 3) gNil))) (tIfS (tAnd (tTest (tOp rGt (tVar 3) (tC (.int 0)))) (tAnd (tTru K (tVar 1)) (tTest (tOp (rEqWt K) (tOp (rIxT K) (tOp (rIxL K) (tVar 1) (tUn rNeg (tC (.int 1)))) (tC (.int 0))) (tVar 2))))) (tAsg (tTup (tCons (tVar 2) (tCons (tOp rAdd (tOp (rIxT K) (tOp (rIxL K) (tVar 1) (tUn rNeg (tC (.int 1)))) (tC (.int 1))) (tVar 3)) tNil))) (gSub (tVar 1) (tUn rNeg (tC (.int 1))) rSetL)) (tIfS (tTest (tOp rGt (tVar 3) (tC (.int 0)))) (tDrop (tBM K "list" rAppend (tVar 1) (tCons (tTup (tCons (tVar 2) (tCons (tVar 3) tNil))) tNil))) tNext)))
  (tRet (tVar 1))))
/-- N = 0 entries -/
def t_runs_of (w : World) (K : PySem.W.Frag) : TS := (tSeq (tDrop (tCall (sp_need_entries K) [] E0 (tCons (tVar 0) tNil)))
  (tRet (tCall (sp_form_of K) [] E0 (tCons (tVar 0) tNil))))
/-- N = 0 runs 1 found 2 worth 3 times -/
def t_borders_of (w : World) (K : PySem.W.Frag) : TS := (tSeq (tAsg (tLst (tCons (tC (.int 0)) tNil)) (gName 1))
  (tSeq (tFor (iList K (tVar 0)) (gTup K 2 (gCons (gName 2) (gCons (gName 3) gNil))) (tDrop (tBM K "list" rAppend (tVar 1) (tCons (tOp rAdd (tOp (rIxL K) (tVar 1) (tUn rNeg (tC (.int 1)))) (tVar 3)) tNil))))
  (tRet (tVar 1))))
/-- N = 0 borders 1 deal 2 house 3 turn 4 start 5 held 6 border 7 at -/
def t_counts_of (w : World) (K : PySem.W.Frag) : TS := (tSeq (tAsg (tTup (tCons (tMeth (cD K) "turn" (sp_Deal_turn K) [] E0 (tVar 1) tNil) (tCons (tOp rSub (tFld K (tVar 1) "shift") (tOp rMul (tVar 2) (tFld K (tVar 1) "block"))) tNil))) (gTup K 2 (gCons (gName 3) (gCons (gName 4) gNil))))
  (tSeq (tAsg (tLc (iList K (tVar 0)) (gName 6) tYes (tCall (sp_below K) [] E0 (tCons (tVar 3) (tCons (tFld K (tVar 1) "block") (tCons (tOp rAdd (tVar 6) (tVar 4)) tNil)))) [6]) (gName 5))
  (tRet (tLc (iRng1 (tCons (tOp rSub (tCB (rLenQ K) (tCons (tVar 5) tNil)) (tC (.int 1))) tNil)) (gName 7) tYes (tOp rSub (tOp (rIxL K) (tVar 5) (tOp rAdd (tVar 7) (tC (.int 1)))) (tOp (rIxL K) (tVar 5) (tVar 7))) [7]))))
/-- N = 0 borders 1 deal 2 special 3 points 4 firsts 5 border 6 house 7 point -/
def t_stretches_of (w : World) (K : PySem.W.Frag) : TS := (tSeq (tAsg (tLc (iList K (tVar 0)) (gName 5) tYes (tOp rMod (tOp rFdv (tOp rAdd (tVar 5) (tFld K (tVar 1) "shift")) (tFld K (tVar 1) "block")) (tFld K (tVar 1) "houses")) [5]) (gName 2))
  (tSeq (tAsg (tOp rCat (tOp rCat (tLst (tCons (tC (.int 0)) tNil)) (tVar 2)) (tLc (iList K (tVar 2)) (gName 6) tYes (tOp rAdd (tVar 6) (tC (.int 1))) [6])) (gName 3))
  (tSeq (tAsg (tCB (rSortedSet w) (tCons (tSI w (iList K (tVar 3)) (gName 7) (tTest (tOp rLt (tVar 7) (tFld K (tVar 1) "houses"))) (tVar 7) [7]) tNil)) (gName 4))
  (tRet (tCB (rZipL K) (tCons (tVar 4) (tCons (tOp rCat (tSl (rSlL K) (tVar 4) (tPart (tC (.int 1))) tNoPart) (tLst (tCons (tFld K (tVar 1) "houses") tNil))) tNil)))))))
/-- N = 0 runs 1 scale 2 way 3 worth 4 times -/
def t_parts_of (w : World) (K : PySem.W.Frag) : TS := (tRet (tLc (iList K (tVar 0)) (gTup K 2 (gCons (gName 3) (gCons (gName 4) gNil))) tYes (tCall (sp_loose_parts K) [] E0 (tCons (tVar 3) (tCons (tVar 1) (tCons (tVar 2) tNil)))) [3, 4]))
/-- N = 0 parts 1 counts 2 way 3 state 4 loose 5 units 6 times -/
def t_counted_total (w : World) (K : PySem.W.Frag) : TS := (tSeq (tAsg (tC (.int 0)) (gName 3))
  (tSeq (tFor (iList K (tCB (rZipL K) (tCons (tVar 0) (tCons (tVar 1) tNil)))) (gTup K 2 (gCons (gTup K 2 (gCons (gName 4) (gCons (gName 5) gNil))) (gCons (gName 6) gNil))) (tIfS (tNot (tB (tVar 4))) (tAug 3 (tOp rMul (tVar 6) (tVar 5)) (ipI fun i j => i + j)) (tIfS (tTest (tOp rGt (tVar 6) (tC (.int 0)))) (tAsg (tCall (sp_added_often K) [] E0 (tCons (tVar 3) (tCons (tVar 5) (tCons (tVar 6) (tCons (tVar 2) tNil))))) (gName 3)) tNext)))
  (tRet (tVar 3))))
/-- N = 0 borders 1 parts 2 deal 3 way 4 total 5 first 6 after -/
def t_dealt_of (w : World) (K : PySem.W.Frag) : TS := (tSeq (tAsg (tC (.int 0)) (gName 4))
  (tSeq (tFor (iList K (tCall (sp_stretches_of K) [] E0 (tCons (tVar 0) (tCons (tVar 2) tNil)))) (gTup K 2 (gCons (gName 5) (gCons (gName 6) gNil))) (tAug 4 (tOp rMul (tOp rSub (tVar 6) (tVar 5)) (tCall (sp_counted_total K) [] E0 (tCons (tVar 1) (tCons (tCall (sp_counts_of K) [] E0 (tCons (tVar 0) (tCons (tVar 2) (tCons (tVar 5) tNil)))) (tCons (tVar 3) tNil))))) (ipI fun i j => i + j)))
  (tRet (tVar 4))))
/-- N = 0 entries 1 deal 2 scale 3 way 4 runs -/
def t_dealt_total (w : World) (K : PySem.W.Frag) : TS := (tSeq (tAsg (tCall (sp_runs_of K) [] E0 (tCons (tVar 0) tNil)) (gName 4))
  (tSeq (tDrop (tCall (sp_need_deal K) [] E0 (tCons (tVar 1) tNil)))
  (tSeq (tDrop (tCall (sp_need_whole K) [] E0 (tCons (tVar 2) tNil)))
  (tSeq (tDrop (tCall (sp_need_way K) [] E0 (tCons (tVar 3) tNil)))
  (tRet (tMake (cW K) (spWI K) [] E0 (tCons (tCall (sp_dealt_of K) [] E0 (tCons (tCall (sp_borders_of K) [] E0 (tCons (tVar 4) tNil)) (tCons (tCall (sp_parts_of K) [] E0 (tCons (tVar 4) (tCons (tVar 2) (tCons (tVar 3) tNil)))) (tCons (tVar 1) (tCons (tVar 3) tNil))))) (tCons (tVar 2) tNil))))))))
/-- N = 0 runs 1 scale 2 way -/
def t_need_told_shiftsums (w : World) (K : PySem.W.Frag) : TS := (tIfS (tAnd (tTest (tOp rNe (tVar 2) (tC (.str "halfeven")))) (tNot (tB (tCall (sp_free_entries K) [] E0 (tCons (tVar 0) (tCons (tVar 1) (tCons (tVar 2) tNil))))))) tNever tNext)
/-- N = 0 runs 1 block 2 breaks 3 firsts 4 border 5 shift -/
def t_pieces_of (w : World) (K : PySem.W.Frag) : TS := (tSeq (tAsg (tOp rCat (tLst (tCons (tC (.int 0)) tNil)) (tLc (iList K (tCall (sp_borders_of K) [] E0 (tCons (tVar 0) tNil))) (gName 4) (tTest (tOp rNe (tOp rMod (tVar 4) (tVar 1)) (tC (.int 0)))) (tOp rSub (tVar 1) (tOp rMod (tVar 4) (tVar 1))) [4])) (gName 2))
  (tSeq (tAsg (tCB (rSortedSet w) (tCons (tSI w (iList K (tVar 2)) (gName 5) tYes (tVar 5) [5]) tNil)) (gName 3))
  (tRet (tCB (rZipL K) (tCons (tVar 3) (tCons (tOp rCat (tSl (rSlL K) (tVar 3) (tPart (tC (.int 1))) tNoPart) (tLst (tCons (tVar 1) tNil))) tNil))))))
/-- N = 0 runs 1 deal 2 scale 3 way 4 found 5 borders 6 parts 7 first 8 after 9 place 10 units -/
def t_values_of (w : World) (K : PySem.W.Frag) : TS := (tSeq (tPar3 4 5 6 (tCons (tLst tNil) (tCons (tCall (sp_borders_of K) [] E0 (tCons (tVar 0) tNil)) (tCons (tCall (sp_parts_of K) [] E0 (tCons (tVar 0) (tCons (tVar 2) (tCons (tVar 3) tNil)))) tNil))))
  (tSeq (tFor (iList K (tCall (sp_pieces_of K) [] E0 (tCons (tVar 0) (tCons (tFld K (tVar 1) "block") tNil)))) (gTup K 2 (gCons (gName 7) (gCons (gName 8) gNil))) (tFor (iRng1 (tCons (tCB rMin2 (tCons (tC (.int 3)) (tCons (tOp rSub (tVar 8) (tVar 7)) tNil))) tNil)) (gName 9) (tSeq (tAsg (tCall (sp_dealt_of K) [] E0 (tCons (tVar 5) (tCons (tVar 6) (tCons (tMake (cD K) (spDI K) [] E0 (tCons (tFld K (tVar 1) "block") (tCons (tFld K (tVar 1) "houses") (tCons (tOp rAdd (tVar 7) (tVar 9)) tNil)))) (tCons (tVar 3) tNil))))) (gName 10))
  (tDrop (tBM K "list" rAppend (tVar 4) (tCons (tTup (tCons (tVar 10) (tCons (tOp rAdd (tVar 7) (tVar 9)) (tCons (tIf (tTru K (tVar 9)) (tOp rFdv (tOp rAdd (tOp rSub (tOp rSub (tVar 8) (tVar 7)) (tVar 9)) (tC (.int 1))) (tC (.int 2))) (tC (.int 1))) tNil)))) tNil))))))
  (tRet (tVar 4))))
/-- N = 0 entries 1 deal 2 scale 3 way 4 runs -/
def t_asked_values (w : World) (K : PySem.W.Frag) : TS := (tSeq (tAsg (tCall (sp_runs_of K) [] E0 (tCons (tVar 0) tNil)) (gName 4))
  (tSeq (tDrop (tCall (sp_need_deal K) [] E0 (tCons (tVar 1) tNil)))
  (tSeq (tDrop (tCall (sp_need_whole K) [] E0 (tCons (tVar 2) tNil)))
  (tSeq (tDrop (tCall (sp_need_way K) [] E0 (tCons (tVar 3) tNil)))
  (tSeq (tDrop (tCall (sp_need_told_shiftsums K) [] E0 (tCons (tVar 4) (tCons (tVar 2) (tCons (tVar 3) tNil)))))
  (tRet (tCall (sp_values_of K) [] E0 (tCons (tVar 4) (tCons (tVar 1) (tCons (tVar 2) (tCons (tVar 3) tNil)))))))))))
/-- N = 0 entries 1 deal 2 scale 3 way 4 counts 5 units 6 shift 7 many 8 key -/
def t_shift_totals (w : World) (K : PySem.W.Frag) : TS := (tSeq (tAsg tDNewK (gName 4))
  (tSeq (tFor (iList K (tCall (sp_asked_values K) [] E0 (tCons (tVar 0) (tCons (tVar 1) (tCons (tVar 2) (tCons (tVar 3) tNil)))))) (gTup K 3 (gCons (gName 5) (gCons (gName 6) (gCons (gName 7) gNil)))) (sDPut (tVar 4) (tVar 5) (tOp rAdd (tDGet2 (tVar 4) (tVar 5) (tC (.int 0))) (tVar 7))))
  (tRet (tCB (rTupOf K) (tCons (tLc (iList K (tCB (rSorted K) (tCons (tLockE (tLc (iKeys (tVar 4)) (gName 8) tYes (tCB rInt1 (tCons (tVar 8) tNil)) [8])) tNil))) (gName 5) tYes (tTup (tCons (tMake (cW K) (spWI K) [] E0 (tCons (tVar 5) (tCons (tVar 2) tNil))) (tCons (tDGet (tVar 4) (tVar 5)) tNil))) [5]) tNil)))))
/-- N = 0 entries 1 deal 2 scale 3 way 4 units 5 shift 6 many -/
def t_least_shift (w : World) (K : PySem.W.Frag) : TS := (tSeq (tAsg (tOp (rIxL K) (tCB (rSortT K) (tCons (tCall (sp_asked_values K) [] E0 (tCons (tVar 0) (tCons (tVar 1) (tCons (tVar 2) (tCons (tVar 3) tNil))))) tNil)) (tC (.int 0))) (gTup K 3 (gCons (gName 4) (gCons (gName 5) (gCons (gName 6) gNil)))))
  (tRet (tTup (tCons (tMake (cW K) (spWI K) [] E0 (tCons (tVar 4) (tCons (tVar 2) tNil))) (tCons (tVar 5) tNil)))))
/-- N = 0 entries 1 deal 2 scale 3 way 4 values 5 units 6 shift 7 many -/
def t_greatest_shift (w : World) (K : PySem.W.Frag) : TS := (tSeq (tAsg (tLc (iList K (tCall (sp_asked_values K) [] E0 (tCons (tVar 0) (tCons (tVar 1) (tCons (tVar 2) (tCons (tVar 3) tNil)))))) (gTup K 3 (gCons (gName 5) (gCons (gName 6) (gCons (gName 7) gNil)))) tYes (tTup (tCons (tUn rNeg (tVar 5)) (tCons (tVar 6) tNil))) [5, 6, 7]) (gName 4))
  (tSeq (tAsg (tOp (rIxL K) (tCB (rSortT K) (tCons (tVar 4) tNil)) (tC (.int 0))) (gTup K 2 (gCons (gName 5) (gCons (gName 6) gNil))))
  (tRet (tTup (tCons (tMake (cW K) (spWI K) [] E0 (tCons (tUn rNeg (tVar 5)) (tCons (tVar 2) tNil))) (tCons (tVar 6) tNil))))))
/-- N = 0 _law_worths 1 _law_at -/
def t__law_rising (w : World) (K : PySem.W.Frag) : TS := (tRet (tCB (rAll K) (tCons (tLc (iRng1 (tCons (tOp rSub (tCB (rLenQ K) (tCons (tVar 0) tNil)) (tC (.int 1))) tNil)) (gName 1) tYes (tOp rLt (tCall (sp_compare K) [] E0 (tCons (tOp (rIxL K) (tVar 0) (tVar 1)) (tCons (tOp (rIxL K) (tVar 0) (tOp rAdd (tVar 1) (tC (.int 1)))) tNil))) (tC (.int 1))) [1]) tNil)))
/-- N = 0 _law_entries_here 1 _law_manner 2 _law_houses 3 _law_found -/
def t__law_ends (w : World) (K : PySem.W.Frag) : TS := (tSeq (tAsg (tCall (sp_given_range K) [] E0 (tCons (tVar 0) (tCons (tC (.int 0)) (tCons (tVar 1) (tCons (tVar 2) tNil))))) (gName 3))
  (tRet (tIf (tAnd (tB (tCB (rIsi K) (tCons (tVar 3) (tCons (tC (.ty "tuple")) tNil)))) (tTest (tOp rEq (tCB (rLenQ K) (tCons (tVar 3) tNil)) (tC (.int 2))))) (tVar 3) (tTup (tCons (tMake (cW K) (spWI K) [.int 0] E0 (tCons (tC (.int 1)) tNil)) (tCons (tMake (cW K) (spWI K) [.int 0] E0 (tCons (tC (.int 0)) tNil)) tNil))))))
/-- N = 0 _law_entries_here 1 _law_deal 2 _law_manner 3 _law_low 4 _law_high 5 _law_total 6 _law_least 7 _law_greatest 8 _law_worth 9 _law_shift 10 _law_moved 11 _law_told 12 _law_pair -/
def t__law_shifts_right (w : World) (K : PySem.W.Frag) : TS := (tSeq (tAsg (tCall (sp_dealt_total K) [] E0 (tCons (tVar 0) (tCons (tVar 1) (tCons (tC (.int 0)) (tCons (tVar 2) tNil))))) (gName 5))
  (tSeq (tPar 6 7 (tCons (tCall (sp_least_shift K) [] E0 (tCons (tVar 0) (tCons (tVar 1) (tCons (tC (.int 0)) (tCons (tVar 2) tNil))))) (tCons (tCall (sp_greatest_shift K) [] E0 (tCons (tVar 0) (tCons (tVar 1) (tCons (tC (.int 0)) (tCons (tVar 2) tNil))))) tNil)))
  (tSeq (tIfS (tNot (tB (tCall (sp__law_rising K) [] E0 (tCons (tLst (tCons (tVar 3) (tCons (tOp (rIxT K) (tVar 6) (tC (.int 0))) (tCons (tVar 5) (tCons (tOp (rIxT K) (tVar 7) (tC (.int 0))) (tCons (tVar 4) tNil)))))) tNil)))) (tRet (tC (.bl false))) tNext)
  (tSeq (tFor (iList K (tLst (tCons (tVar 6) (tCons (tVar 7) tNil)))) (gTup K 2 (gCons (gName 8) (gCons (gName 9) gNil))) (tSeq (tAsg (tMake (cD K) (spDI K) [] E0 (tCons (tFld K (tVar 1) "block") (tCons (tFld K (tVar 1) "houses") (tCons (tVar 9) tNil)))) (gName 10))
  (tIfS (tOr (tNot (tTest (tChain rLe rLt (tC (.int 0)) (tVar 9) (tFld K (tVar 1) "block")))) (tTest (tOp (rNeWt K) (tCall (sp_dealt_total K) [] E0 (tCons (tVar 0) (tCons (tVar 10) (tCons (tC (.int 0)) (tCons (tVar 2) tNil))))) (tVar 8)))) (tRet (tC (.bl false))) tNext)))
  (tSeq (tAsg (tCall (sp_shift_totals K) [] E0 (tCons (tVar 0) (tCons (tVar 1) (tCons (tC (.int 0)) (tCons (tVar 2) tNil))))) (gName 11))
  (tSeq (tIfS (tOr (tTest (tOp (rNeWt K) (tOp (rIxT K) (tOp (rIxT K) (tVar 11) (tC (.int 0))) (tC (.int 0))) (tOp (rIxT K) (tVar 6) (tC (.int 0))))) (tOr (tTest (tOp (rNeWt K) (tOp (rIxT K) (tOp (rIxT K) (tVar 11) (tUn rNeg (tC (.int 1)))) (tC (.int 0))) (tOp (rIxT K) (tVar 7) (tC (.int 0))))) (tTest (tOp rNe (tCB (rSum K) (tCons (tLc (iTup K (tVar 11)) (gName 12) tYes (tOp (rIxT K) (tVar 12) (tC (.int 1))) [12]) tNil)) (tFld K (tVar 1) "block"))))) (tRet (tC (.bl false))) tNext)
  (tRet (tOp (rInWL K) (tVar 5) (tLc (iTup K (tVar 11)) (gName 12) tYes (tOp (rIxT K) (tVar 12) (tC (.int 0))) [12])))))))))
/-- N = 0 _law_entries_here 1 _law_manner 2 _law_houses 3 _law_near 4 _law_next_one 5 _law_enough 6 _law_far 7 _law_at -/
def t__law_giving_right (w : World) (K : PySem.W.Frag) : TS := (tSeq (tPar 3 4 (tCons (tCall (sp__law_ends K) [] E0 (tCons (tVar 0) (tCons (tVar 1) (tCons (tVar 2) tNil)))) (tCons (tCall (sp__law_ends K) [] E0 (tCons (tVar 0) (tCons (tVar 1) (tCons (tOp rAdd (tVar 2) (tC (.int 1))) tNil)))) tNil)))
  (tSeq (tIfS (tNot (tB (tCall (sp__law_rising K) [] E0 (tCons (tLst (tCons (tOp (rIxT K) (tVar 4) (tC (.int 0))) (tCons (tOp (rIxT K) (tVar 3) (tC (.int 0))) (tCons (tOp (rIxT K) (tVar 3) (tC (.int 1))) (tCons (tOp (rIxT K) (tVar 4) (tC (.int 1))) tNil))))) tNil)))) (tRet (tC (.bl false))) tNext)
  (tSeq (tPar 5 6 (tCons (tCall (sp_houses_enough K) [] E0 (tCons (tVar 0) (tCons (tC (.int 0)) (tCons (tVar 1) tNil)))) (tCons (tCall (sp__law_ends K) [] E0 (tCons (tVar 0) (tCons (tVar 1) (tCons (tOp rPow (tC (.int 10)) (tC (.int 59))) tNil)))) tNil)))
  (tSeq (tFor (iRng1 (tCons (tC (.int 2)) tNil)) (gName 7) (tSeq (tIfS (tOr (tTest (tOp rLt (tOp (rIxT K) (tVar 5) (tVar 7)) (tC (.int 1)))) (tTest (tOp (rNeWt K) (tOp (rIxT K) (tCall (sp__law_ends K) [] E0 (tCons (tVar 0) (tCons (tVar 1) (tCons (tOp (rIxT K) (tVar 5) (tVar 7)) tNil)))) (tVar 7)) (tOp (rIxT K) (tVar 6) (tVar 7))))) (tRet (tC (.bl false))) tNext)
  (tIfS (tAnd (tTest (tOp rGt (tOp (rIxT K) (tVar 5) (tVar 7)) (tC (.int 1)))) (tTest (tOp (rEqWt K) (tOp (rIxT K) (tCall (sp__law_ends K) [] E0 (tCons (tVar 0) (tCons (tVar 1) (tCons (tOp rSub (tOp (rIxT K) (tVar 5) (tVar 7)) (tC (.int 1))) tNil)))) (tVar 7)) (tOp (rIxT K) (tVar 6) (tVar 7))))) (tRet (tC (.bl false))) tNext)))
  (tRet (tC (.bl true)))))))
end KX
/-! What the derivations lean on: making as a bundle, room. -/
namespace KX
open PySem PySem.Spec PyProof.Rows L2
structure MkrW (P : Program) (w : World) (K : PySem.W.Frag) (mg : Str → Option Value) (base : Heap) (k : Nat) : Prop where
  ex : ∃ f fd, Mk K (cW K) f ∧ FnOk P w K mg base CX0 k f fd ["self", "units", "scale"] (spWI K) ∧ mg "Worth" = some (.ref (cW K)) ∧ Binds K fd ["self", "units", "scale"] [] ∧ ∃ ds, Vals [V.int 0] ds ∧ Binds K fd ["self", "units", "scale"] ds
structure MkrD (P : Program) (w : World) (K : PySem.W.Frag) (mg : Str → Option Value) (base : Heap) (k : Nat) : Prop where
  ex : ∃ f fd, Mk K (cD K) f ∧ FnOk P w K mg base CX0 k f fd ["self", "block", "houses", "shift"] (spDI K) ∧ mg "Deal" = some (.ref (cD K)) ∧ Binds K fd ["self", "block", "houses", "shift"] [] ∧ ∃ ds, Vals [V.int 0] ds ∧ Binds K fd ["self", "block", "houses", "shift"] ds
section
variable {X : Cx} {k j : Nat} {p pos : Pos} {e : Expr} {es : List Expr} {t : TA}
theorem pe_mkW (M : MkrW X.prog X.w X.K X.mg X.base k) (hr : Room j X.A) (hk : k + 1 ≤ j) (ha : PA X (e :: es) t) (hg : Gl X "Worth" := by rfl)
    (he : starEach (e :: es) X.env = (false, eval e X.env) :: starEach es X.env := by rfl) (hpl : (backTo pos (starEach es X.env)).any (·.1) = false := by rfl) : PE X (.Call (.Name "Worth" p) (e :: es) [] pos) (tMake (cW X.K) (spWI X.K) [] E0 t) := by
  obtain ⟨f, fd, h1, h2, h3, h4, _⟩ := M.ex
  exact pe_make h1 h2 (hr.mono hk) hg h3 h4 .nil pass0 ha (by decide) he hpl
theorem pe_mkW1 (M : MkrW X.prog X.w X.K X.mg X.base k) (hr : Room j X.A) (hk : k + 1 ≤ j) (ha : PA X (e :: es) t) (hg : Gl X "Worth" := by rfl)
    (he : starEach (e :: es) X.env = (false, eval e X.env) :: starEach es X.env := by rfl) (hpl : (backTo pos (starEach es X.env)).any (·.1) = false := by rfl) : PE X (.Call (.Name "Worth" p) (e :: es) [] pos) (tMake (cW X.K) (spWI X.K) [.int 0] E0 t) := by
  obtain ⟨f, fd, h1, h2, h3, _, ds, h4, h5⟩ := M.ex
  exact pe_make h1 h2 (hr.mono hk) hg h3 h5 h4 pass0 ha (by decide) he hpl
theorem pe_mkD (M : MkrD X.prog X.w X.K X.mg X.base k) (hr : Room j X.A) (hk : k + 1 ≤ j) (ha : PA X (e :: es) t) (hg : Gl X "Deal" := by rfl)
    (he : starEach (e :: es) X.env = (false, eval e X.env) :: starEach es X.env := by rfl) (hpl : (backTo pos (starEach es X.env)).any (·.1) = false := by rfl) : PE X (.Call (.Name "Deal" p) (e :: es) [] pos) (tMake (cD X.K) (spDI X.K) [] E0 t) := by
  obtain ⟨f, fd, h1, h2, h3, h4, _⟩ := M.ex
  exact pe_make h1 h2 (hr.mono hk) hg h3 h4 .nil pass0 ha (by decide) he hpl
theorem pe_mkD1 (M : MkrD X.prog X.w X.K X.mg X.base k) (hr : Room j X.A) (hk : k + 1 ≤ j) (ha : PA X (e :: es) t) (hg : Gl X "Deal" := by rfl)
    (he : starEach (e :: es) X.env = (false, eval e X.env) :: starEach es X.env := by rfl) (hpl : (backTo pos (starEach es X.env)).any (·.1) = false := by rfl) : PE X (.Call (.Name "Deal" p) (e :: es) [] pos) (tMake (cD X.K) (spDI X.K) [.int 0] E0 t) := by
  obtain ⟨f, fd, h1, h2, h3, _, ds, h4, h5⟩ := M.ex
  exact pe_make h1 h2 (hr.mono hk) hg h3 h5 h4 pass0 ha (by decide) he hpl
end
theorem hu64 {A : Around} {k : Nat} (hr : Room k A) : A.units + 64 < cLine := by
  have := hr.un
  omega
theorem hu4 {A : Around} {k : Nat} (hr : Room k A) : A.units + 4 < cLine := by
  have := hr.un
  omega
end KX
/-! Calls by name, small rules, what the laws of the defs lean on. -/
namespace KX
open PySem PySem.Spec PyProof.Rows L2
section
variable {K : PySem.W.Frag} {δ : KX.Env} {ow : Own} {ta tb tc te : TE} {tt : TT} {t tr : TA} {E : XK} {b : Bool} {i j : Int}
theorem ed_iteI (h : ET K tt δ ow b) (h1 : b = true → ED K ta δ ow (.int i)) (h2 : b = false → ED K tb δ ow (.int j)) : ED K (tIf tt ta tb) δ ow (.int (if b = true then i else j)) :=
  ed_if h (fun q => by rw [if_pos q]; exact h1 q) (fun q => by rw [if_neg (by rw [q]; decide)]; exact h2 q)
theorem ed_iteB {x y : Bool} (h : ET K tt δ ow b) (h1 : b = true → ED K ta δ ow (.bl x)) (h2 : b = false → ED K tb δ ow (.bl y)) : ED K (tIf tt ta tb) δ ow (.bl (if b = true then x else y)) :=
  ed_if h (fun q => by rw [if_pos q]; exact h1 q) (fun q => by rw [if_neg (by rw [q]; decide)]; exact h2 q)
theorem mul_ok {a b : Nat} {x y : Int} (h1 : x.natAbs < 2 ^ a) (h2 : y.natAbs < 2 ^ b) (ha : 0 < a ∧ 0 < b ∧ a + b ≤ 1000000 := by decide) : CMulW x y := wide_mul h1 h2 ha.1 ha.2.1 ha.2.2
theorem small_ok {a b : Nat} {x : Int} (h : x.natAbs < 2 ^ a) (hab : a ≤ b := by decide) : x.natAbs < 2 ^ b := Nat.lt_of_lt_of_le h (Nat.pow_le_pow_right (by decide) hab)
theorem mulW_ok {x y : Int} (h1 : x.natAbs < 2 ^ 3000) (h2 : y.natAbs < 2 ^ 3000) : CMulW x y := wide_mul h1 h2 (by decide) (by decide) (by decide)
theorem lit_ok {x : Int} {n : Nat} (h : x.natAbs < 1000 := by decide) (hn : 10 ≤ n := by decide) : x.natAbs < 2 ^ n := Nat.lt_of_lt_of_le h (Nat.le_trans (by decide : 1000 ≤ 2 ^ 10) (Nat.pow_le_pow_right (by decide) hn))
theorem divW_ok {x y : Int} (h0 : 0 < y) (h : y.natAbs < 2 ^ 9000) : CDivW x y := wide_div h0 h (by decide) (by decide)
theorem divP_ok {x y : Int} (h0 : 0 < y) (h : x.natAbs < 2 ^ 3000) : CDivP x y := divp_ok h0 (Nat.le_trans (intBits_le h) (by omega))
/-- a start -/
theorem way_eq (a b : Way) : decide (a.s = b.s) = decide (a = b) := by cases a <;> cases b <;> decide
theorem kd_eq (a b : Kd) : decide (a.s = b.s) = decide (a = b) := by cases a <;> cases b <;> decide
variable {N N' : KX.Env → Own → Prop} {R : D → Prop} {ts us ws : TS} {α β : Type} {wi : TI} {g : TG}
/-- a loop as a fold, the place known -/
theorem es_forI (l : List α) (enc : α → D) (st : β → α → β) (b0 : β) (P : Nat → β → KX.Env → Own → Prop) (he : EIL K wi δ ow (l.map enc)) (h0 : P 0 b0 δ ow)
    (hs : ∀ i b a δ' ow', l[i]? = some a → P i b δ' ow' → ∃ δ'', EG K g (enc a) δ' δ'' ow' ∧ ES K ts δ'' ow' (P (i + 1) (st b a)) R) (hd : ∀ δ' ow', P l.length (l.foldl st b0) δ' ow' → N δ' ow') : ES K (tFor wi g ts) δ ow N R := by
  refine es_for he (fun i δ' ow' => P i ((l.take i).foldl st b0) δ' ow') (by simpa using h0) (fun i δ' ow' hi p => ?_) (fun δ' ow' p => hd δ' ow' (by rw [List.length_map, List.take_length] at p; exact p))
  rw [List.length_map] at hi
  obtain ⟨δ'', h1, h2⟩ := hs i _ l[i] δ' ow' (List.getElem?_eq_getElem hi) p
  refine ⟨δ'', ?_, ?_⟩
  · rw [show (l.map enc).getD i .non = enc l[i] from by rw [List.getD_eq_getElem?_getD, List.getElem?_map, List.getElem?_eq_getElem hi]; rfl]
    exact h1
  · rw [List.take_succ, List.getElem?_eq_getElem hi]
    simp only [Option.toList_some, List.foldl_append, List.foldl_cons, List.foldl_nil]
    exact h2
/-- x = [e, ..]: a list of one's own -/
theorem es_ownA {n : Nat} {ds : List D} (h : EA K tr δ none ds) (hl : ds.length ≤ 100000) (hn : n < δ.length) (k : N (δ.set n none) (some (n, .l ds))) : ES K (tAsg (tLst tr) (gName n)) δ none N R := fun Hb0 H0 Hb H σ En fx s kn kr => by
  refine h H0 Hb H σ _ s fun vs Hn H2 f1 r1 => ⟨size_ok (by rw [r1.len]; exact hl), fun p hp => ?_⟩
  have s1 := s.fx f1
  have fx1 := fx.trans f1
  have hb : Hn p = none := s1.sm.free hp
  have h0 : H0 p = none := fx1.s.free hp
  refine kn _ _ Hn _ _ ⟨fx1.bn, fx1.n2.trans (same_new hp), fx1.s.trans (same_new hp), fx1.df⟩ f1.bn ?_ k
  refine ⟨s1.sm.trans (same_new hp), fun i d e => ?_, by rw [List.length_set, List.length_set, s1.len], fun i ds' e => ?_⟩
  · by_cases q : n = i
    · subst q
      rw [List.getElem?_set_self hn] at e
      cases e
    · rw [List.getElem?_set_ne q] at e ⊢
      exact s1.rep i d e
  · cases e
    exact ⟨by rw [List.getElem?_set_self hn], p, by rw [List.getElem?_set_self (by rw [← s1.len]; exact hn)], h0, hb, vs, upd_same, r1⟩
theorem perm_sorted : ∀ {a b : List Int}, a.Perm b → a.Pairwise (· ≤ ·) → b.Pairwise (· ≤ ·) → a = b
  | [], b, h, _, _ => (List.Perm.eq_nil h.symm).symm
  | x :: a, [], h, _, _ => absurd h.length_eq (by simp)
  | x :: a, y :: b, h, ha, hb => by
    obtain ⟨a1, a2⟩ := List.pairwise_cons.mp ha
    obtain ⟨b1, b2⟩ := List.pairwise_cons.mp hb
    have e : x = y := by
      have h1 : x ∈ y :: b := h.mem_iff.mp List.mem_cons_self
      have h2 : y ∈ x :: a := h.mem_iff.mpr List.mem_cons_self
      rcases List.mem_cons.mp h1 with q | q
      · exact q
      · rcases List.mem_cons.mp h2 with q2 | q2
        · exact q2.symm
        · exact Int.le_antisymm (a1 y q2) (b1 x q)
    subst e
    rw [perm_sorted h.cons_inv a2 b2]
theorem srt1_sorted (ns : List Int) : (srt1 ns).Pairwise (· ≤ ·) := by
  have := List.pairwise_mergeSort (le := fun p q : Int => decide (p ≤ q)) (fun a b c h1 h2 => decide_eq_true (Int.le_trans (of_decide_eq_true h1) (of_decide_eq_true h2))) (fun a b => by
    rw [Bool.or_eq_true, decide_eq_true_eq, decide_eq_true_eq]
    exact Int.le_total a b) ns
  exact this.imp fun h => of_decide_eq_true h
theorem rd_sortI {ns : List Int} (h : ns.length < 64) : RD K (rSorted K) [dZ ns] (dZ (srt1 ns)) := fun Hb H vs Q s r k => by
  obtain ⟨v, e1, e2⟩ := repl1 r
  rw [Rep] at e2
  obtain ⟨a, us, g1, g2, g3⟩ := e2
  subst g1 e1
  rw [repl_int g3] at g2
  refine ⟨a, ns, rfl, sqL_of (s _ _ g2), h, fun ns' p h1 h2 hp => ?_⟩
  have e : ns' = srt1 ns := perm_sorted (h1.trans (List.mergeSort_perm ns _).symm) h2 (srt1_sorted ns)
  have f := Fx.new s (.lst (ns'.map V.int)) hp
  rw [← e] at k
  exact k _ _ _ f (rep_lst upd_same (repl_of_int ns'))
theorem ed_chain {C1 C2 : Int → Int → Bool} {k : Int} (ha : ED K ta δ ow (.int i)) (hb : ED K tb δ ow (.int j)) (hc : ED K tc δ ow (.int k)) : ED K (tChain (rI0 fun i j => .bl (C1 i j)) (rI0 fun i j => .bl (C2 i j)) ta tb tc) δ ow (.bl (C1 i j && C2 j k)) := fun H0 Hb H σ Q s kk => by
  refine ha H0 Hb H σ _ s fun v Hn H2 f1 r1 => ?_
  refine hb H0 Hn H2 σ _ (s.fx f1) fun u Hm H3 f2 r2 => ?_
  rw [Rep] at r1 r2
  subst r1 r2
  refine ⟨i, j, rfl, rfl, C1 i j, rfl, ?_⟩
  cases q : C1 i j with
  | true =>
    refine iteT (hc H0 Hm H3 σ _ ((s.fx f1).fx f2) fun x Hk H4 f3 r3 => ?_)
    rw [Rep] at r3
    subst r3
    refine ⟨j, k, rfl, rfl, ?_⟩
    rw [q] at kk
    exact kk _ Hk H4 ((f1.trans f2).trans f3) rep_bl
  | false =>
    rw [q] at kk
    exact iteF (kk _ Hm H3 (f1.trans f2) rep_bl)
/-! ### calls -/
theorem c_is_integer (h : EA K t δ ow [.int i]) : ED K (tCall (sp_is_integer K) [] E t) δ ow (.bl true) := ed_call i h trivial
theorem c_is_whole (h : EA K t δ ow [.int i]) : ED K (tCall (sp_is_whole K) [] E t) δ ow (.bl (decide (0 ≤ i))) := ed_call i h trivial
theorem c_need_integer (h : EA K t δ ow [.int i]) : ED K (tCall (sp_need_integer K) [] E t) δ ow .non := ed_call i h trivial
theorem c_need_whole (h : EA K t δ ow [.int i]) (p : 0 ≤ i) : ED K (tCall (sp_need_whole K) [] E t) δ ow .non := ed_call i h p
theorem c_need_positive (h : EA K t δ ow [.int i]) (p : 0 < i) : ED K (tCall (sp_need_positive K) [] E t) δ ow .non := ed_call i h p
theorem c_need_items {l : List D} (h : EA K t δ ow [.lst l]) : ED K (tCall (sp_need_items K) [] E t) δ ow .non := ed_call l h trivial
theorem c_ten_to (h : EA K t δ ow [.int i]) (p : i = 0 ∨ i = 1) : ED K (tCall (sp_ten_to K) [] E t) δ ow (.int (if i = 0 then 1 else 10)) := ed_call i h p
theorem c_lowered (h : EA K t δ ow [.int i, .int j]) (p : j = 0 ∨ j = 1) : ED K (tCall (sp_lowered K) [] E t) δ ow (.tup [.int (wu (tn i j)), .int (wsc (tn i j))]) := ed_call (i, j) h p
theorem c_need_worth {n : Int} (h : EA K t δ ow [.wt n]) : ED K (tCall (sp_need_worth K) [] E t) δ ow .non := ed_call n h trivial
theorem c_worth_sum {n m : Int} (h : EA K t δ ow [.wt n, .wt m, .int (-1)]) (p : n.natAbs < 2 ^ 3000 ∧ m.natAbs < 2 ^ 3000) : ED K (tCall (sp_worth_sum K) [] E t) δ ow (.wt (n - m)) := ed_call (n, m) h p
theorem c_compare {n m : Int} (h : EA K t δ ow [.wt n, .wt m]) (p : n.natAbs < 2 ^ 3000 ∧ m.natAbs < 2 ^ 3000) : ED K (tCall (sp_compare K) [] E t) δ ow (.int (sgn (n - m))) := ed_call (n, m) h p
theorem c_need_way {w : Way} (h : EA K t δ ow [.str w.s]) : ED K (tCall (sp_need_way K) [] E t) δ ow .non := ed_call w h trivial
theorem c_lift {w : Way} {x y : Bool} (h : EA K t δ ow [.str w.s, .int i, .bl x, .bl y]) (p : 0 ≤ i ∧ i ≤ 3) : ED K (tCall (sp_lift K) [] E t) δ ow (.int (liftF w i x y)) := ed_call (w, i, x, y) h p
theorem c_part_of (h : EA K t δ ow [.int i, .int j]) (p : i.natAbs < 2 ^ 100) : ED K (tCall (sp_part_of K) [] E t) δ ow (.int (partF i j)) := ed_call (i, j) h p
theorem c_divided_by {w : Way} (h : EA K t δ ow [.int i, .int j, .str w.s]) (p : (j = 1 ∨ j = 10) ∧ i.natAbs < 2 ^ 100) : ED K (tCall (sp_divided_by K) [] E t) δ ow (.int (divF i j w)) := ed_call (i, j, w) h p
theorem c_is_entry {n : Int} (h : EA K t δ ow [.tup [.wt n, .int i]]) : ED K (tCall (sp_is_entry K) [] E t) δ ow (.bl (decide (0 ≤ i))) := ed_call (n, i) h trivial
theorem c_need_entries {es : Ent} (h : EA K t δ ow [dE es]) (p : OkE es) : ED K (tCall (sp_need_entries K) [] E t) δ ow .non := ed_call es h p
theorem c_need_asked {es : Ent} {w : Way} (h : EA K t δ ow [dE es, .int 0, .str w.s]) (p : OkE es) : ED K (tCall (sp_need_asked K) [] E t) δ ow .non := ed_call (es, w) h p
theorem c_in_parts {n : Int} (h : EA K t δ ow [.wt n, .int 0]) (p : n.natAbs < 2 ^ 20) : ED K (tCall (sp_in_parts K) [] E t) δ ow (.tup [.int (wu n), .int (un n)]) := ed_call n h p
theorem c_loose_parts {n : Int} (w : Way) (h : EA K t δ ow [.wt n, .int 0, .str w.s]) (p : n.natAbs < 2 ^ 20) : ED K (tCall (sp_loose_parts K) [] E t) δ ow (.tup [.bl (looseF w n), .int (unitF w n)]) := ed_call (n, w) h p
theorem c_added {w : Way} (h : EA K t δ ow [.int i, .bl true, .int j, .str w.s]) (p : Sd w) : ED K (tCall (sp_added K) [] E t) δ ow (.int (addF w i j)) := ed_call (i, j, w) h p
theorem c_added_often {w : Way} {k : Int} (h : EA K t δ ow [.int i, .int j, .int k, .str w.s]) (p : Sd w ∧ j.natAbs < 2 ^ 21 ∧ k.natAbs < 2 ^ 2000) : ED K (tCall (sp_added_often K) [] E t) δ ow (.int (oftF w i j k)) := ed_call (i, j, k, w) h p
theorem c_running_units {es : Ent} {w : Way} (h : EA K t δ ow [dE es, .int 0, .str w.s]) (p : OkE es) : ED K (tCall (sp_running_units K) [] E t) δ ow (.int (runF w es)) := ed_call (es, w) h p
theorem c_free_entries {es : Ent} {w : Way} (h : EA K t δ ow [dE es, .int 0, .str w.s]) (p : OkE es) : ED K (tCall (sp_free_entries K) [] E t) δ ow (.bl (freeF w es)) := ed_call (es, w) h p
theorem c_single_total {es : Ent} {w : Way} (h : EA K t δ ow [dE es, .int 0, .str w.s]) (p : OkE es) : ED K (tCall (sp_single_total K) [] E t) δ ow (.wt (10 * singF w es)) := ed_call (es, w) h p
theorem c_running_total {es : Ent} {w : Way} (h : EA K t δ ow [dE es, .int 0, .str w.s]) (p : OkE es) : ED K (tCall (sp_running_total K) [] E t) δ ow (.wt (10 * runF w es)) := ed_call (es, w) h p
theorem c_is_free {es : Ent} {w : Way} (h : EA K t δ ow [dE es, .int 0, .str w.s]) (p : OkE es) : ED K (tCall (sp_is_free K) [] E t) δ ow (.bl (freeF w es)) := ed_call (es, w) h p
theorem c_even_ends {es : Ent} (h : EA K t δ ow [dE es, .int 0]) (p : OkE es) : ED K (tCall (sp_even_ends K) [] E t) δ ow (.tup [.int (endLo es), .int (endHi es)]) := ed_call es h p
theorem c_sided_top {es : Ent} {w : Way} (h : EA K t δ ow [dE es, .int 0, .str w.s]) (p : OkE es ∧ (w = .cu ∨ w = .ha) ∧ OneSign es) : ED K (tCall (sp_sided_top K) [] E t) δ ow (.int (topF w es)) := ed_call (es, w) h p
theorem c_order_range {es : Ent} {w : Way} (h : EA K t δ ow [dE es, .int 0, .str w.s]) (p : OkE es ∧ (w = .cu ∨ w = .ha → ∀ e ∈ es, 0 ≤ e.1)) : ED K (tCall (sp_order_range K) [] E t) δ ow (.tup [.wt (10 * ordLo w es), .wt (10 * ordHi w es)]) := ed_call (es, w) h p
theorem c_even_runs {es : Ent} (h : EA K t δ ow [dE es, .int 0]) (p : OkE es) : ED K (tCall (sp_even_runs K) [] E t) δ ow (.tup [.int (runsF es).1, dR (runsF es).2]) := ed_call es h p
theorem c_odd_houses {k : Int} {x : Bool} (h : EA K t δ ow [.int i, .int j, .int k, .bl x]) : ED K (tCall (sp_odd_houses K) [] E t) δ ow (.int (oddHF i j k x)) := ed_call (i, j, k, x) h trivial
theorem c_best_given {es : Ent} (h : EA K t δ ow [dE es, .int 0, .int i]) (p : OkE es) : ED K (tCall (sp_best_given K) [] E t) δ ow (.int (bestF es i)) := ed_call (es, i) h p
theorem c_negated {es : Ent} (h : EA K t δ ow [dE es]) (p : OkE es) : ED K (tCall (sp_negated K) [] E t) δ ow (dE (negE es)) := ed_call es h p
theorem c_need_told_giving {es : Ent} {w : Way} (h : EA K t δ ow [dE es, .int 0, .str w.s]) (p : OkE es ∧ Told w es) : ED K (tCall (sp_need_told_giving K) [] E t) δ ow .non := ed_call (es, w) h p
theorem c_need_told_shiftsums {es : Ent} {w : Way} (h : EA K t δ ow [dE es, .int 0, .str w.s]) (p : OkE es ∧ Told w es) : ED K (tCall (sp_need_told_shiftsums K) [] E t) δ ow .non := ed_call (es, w) h p
theorem c_given_range {es : Ent} {w : Way} (h : EA K t δ ow [dE es, .int 0, .str w.s, .int i]) (p : OkE es ∧ Told w es ∧ 0 < i) : ED K (tCall (sp_given_range K) [] E t) δ ow (.tup [.wt (10 * givLo w es i), .wt (10 * givHi w es i)]) := ed_call (es, w, i) h p
theorem c_enough {es : Ent} (h : EA K t δ ow [dE es, .int 0]) (p : OkE es) : ED K (tCall (sp_enough K) [] E t) δ ow (.int (enoF es)) := ed_call es h p
theorem c_houses_enough {es : Ent} {w : Way} (h : EA K t δ ow [dE es, .int 0, .str w.s]) (p : OkE es ∧ Told w es) : ED K (tCall (sp_houses_enough K) [] E t) δ ow (.tup [.int (if w = .he then enoF (negE es) else 1), .int (if w = .he then enoF es else 1)]) := ed_call (es, w) h p
theorem c_below {k : Int} (h : EA K t δ ow [.int i, .int j, .int k]) (p : 0 < i ∧ i < 2 ^ 2000 ∧ j.natAbs < 2 ^ 2000 ∧ k.natAbs < 2 ^ 2000) : ED K (tCall (sp_below K) [] E t) δ ow (.int (belowF i j k)) := ed_call (i, j, k) h p
theorem c_need_deal {x P a : Int} (h : EA K t δ ow [.deal x P a]) : ED K (tCall (sp_need_deal K) [] E t) δ ow .non := ed_call (x, P, a) h trivial
theorem c_form_of {es : Ent} (h : EA K t δ ow [dE es]) (p : OkE es) : ED K (tCall (sp_form_of K) [] E t) δ ow (dE (formF es)) := ed_call es h p
theorem c_runs_of {es : Ent} (h : EA K t δ ow [dE es]) (p : OkE es) : ED K (tCall (sp_runs_of K) [] E t) δ ow (dE (formF es)) := ed_call es h p
theorem c_borders_of {es : Ent} (h : EA K t δ ow [dE es]) (p : OkE es) : ED K (tCall (sp_borders_of K) [] E t) δ ow (dZ (bordE es)) := ed_call es h p
theorem c_counts_of {bs : List Int} {x P a k : Int} (h : EA K t δ ow [dZ bs, .deal x P a, .int k]) (p : OkB bs ∧ OkD x P a ∧ 0 ≤ k ∧ k < P ∧ 1 ≤ bs.length) : ED K (tCall (sp_counts_of K) [] E t) δ ow (dZ (countsF bs x P a k)) := ed_call (bs, x, P, a, k) h p
theorem c_stretches_of {bs : List Int} {x P a : Int} (h : EA K t δ ow [dZ bs, .deal x P a]) (p : OkB bs ∧ OkD x P a) : ED K (tCall (sp_stretches_of K) [] E t) δ ow (dQ (strF bs x P a)) := ed_call (bs, x, P, a) h p
theorem c_parts_of {es : Ent} {w : Way} (h : EA K t δ ow [dE es, .int 0, .str w.s]) (p : OkE es) : ED K (tCall (sp_parts_of K) [] E t) δ ow (dP (prtE w es)) := ed_call (es, w) h p
theorem c_counted_total {ps : List (Bool × Int)} {ts : List Int} {w : Way} (h : EA K t δ ow [dP ps, dZ ts, .str w.s]) (p : OkP ps ∧ ps.length = ts.length ∧ (∀ t ∈ ts, t.natAbs < 2 ^ 2000) ∧ ∀ p ∈ ps, p.1 = true → Sd w) : ED K (tCall (sp_counted_total K) [] E t) δ ow (.int (cntF w ps ts)) := ed_call (ps, ts, w) h p
theorem c_dealt_of {bs : List Int} {ps : List (Bool × Int)} {x P a : Int} {w : Way} (h : EA K t δ ow [dZ bs, dP ps, .deal x P a, .str w.s]) (p : preD bs ps w ∧ OkD x P a) : ED K (tCall (sp_dealt_of K) [] E t) δ ow (.int (dealF w bs ps x P a)) := ed_call (bs, ps, x, P, a, w) h p
theorem c_dealt_total {es : Ent} {x P a : Int} {w : Way} (h : EA K t δ ow [dE es, .deal x P a, .int 0, .str w.s]) (p : OkE es ∧ OkD x P a) : ED K (tCall (sp_dealt_total K) [] E t) δ ow (.wt (10 * dtotF w es x P a)) := ed_call (es, x, P, a, w) h p
theorem c_pieces_of {es : Ent} (h : EA K t δ ow [dE es, .int i]) (p : OkE es ∧ 0 < i) : ED K (tCall (sp_pieces_of K) [] E t) δ ow (dQ (pieF (bordE es) i)) := ed_call (es, i) h p
theorem c_values_of {es : Ent} {x P a : Int} {w : Way} (h : EA K t δ ow [dE es, .deal x P a, .int 0, .str w.s]) (p : OkE es ∧ OkD x P a) : ED K (tCall (sp_values_of K) [] E t) δ ow (dV (valsF w es x P)) := ed_call (es, x, P, a, w) h p
theorem c_asked_values {es : Ent} {x P a : Int} {w : Way} (h : EA K t δ ow [dE es, .deal x P a, .int 0, .str w.s]) (p : OkE es ∧ OkD x P a ∧ Told w (formF es)) : ED K (tCall (sp_asked_values K) [] E t) δ ow (dV (valsF w (formF es) x P)) := ed_call (es, x, P, a, w) h p
theorem c_shift_totals {es : Ent} {x P a : Int} {w : Way} (h : EA K t δ ow [dE es, .deal x P a, .int 0, .str w.s]) (p : OkE es ∧ OkD x P a ∧ Told w (formF es)) : ED K (tCall (sp_shift_totals K) [] E t) δ ow (.tup ((told w es x P).map fun q => .tup [.wt (10 * q.1), .int q.2])) := ed_call (es, x, P, a, w) h p
theorem c_least_shift {es : Ent} {x P a : Int} {w : Way} (h : EA K t δ ow [dE es, .deal x P a, .int 0, .str w.s]) (p : OkE es ∧ OkD x P a ∧ Told w (formF es)) : ED K (tCall (sp_least_shift K) [] E t) δ ow (.tup [.wt (10 * (leastF w es x P).getD 0 0), .int ((leastF w es x P).getD 1 0)]) := ed_call (es, x, P, a, w) h p
theorem c_greatest_shift {es : Ent} {x P a : Int} {w : Way} (h : EA K t δ ow [dE es, .deal x P a, .int 0, .str w.s]) (p : OkE es ∧ OkD x P a ∧ Told w (formF es)) : ED K (tCall (sp_greatest_shift K) [] E t) δ ow (.tup [.wt (10 * -(greatF w es x P).getD 0 0), .int ((greatF w es x P).getD 1 0)]) := ed_call (es, x, P, a, w) h p
theorem c__law_rising {ws : List Int} (h : EA K t δ ow [.lst (ws.map D.wt)]) (p : ws.length ≤ 10 ∧ ∀ x ∈ ws, x.natAbs < 2 ^ 3000) : ED K (tCall (sp__law_rising K) [] E t) δ ow (.bl (risF ws)) := ed_call ws h p
theorem c__law_ends {es : Ent} {w : Way} (h : EA K t δ ow [dE es, .str w.s, .int i]) (p : OkE es ∧ Told w es ∧ 0 < i) : ED K (tCall (sp__law_ends K) [] E t) δ ow (.tup [.wt (10 * givLo w es i), .wt (10 * givHi w es i)]) := ed_call (es, w, i) h p
/-! methods -/
theorem fs_wt {n : Int} {m : Str} (h1 : m ≠ "units") (h2 : m ≠ "scale") : (wFs n).lookup m = none := by
  show List.lookup m [("units", _), ("scale", _)] = none
  rw [List.lookup_cons, List.lookup_cons, beq_false_of_ne h1, beq_false_of_ne h2]
  rfl
theorem c_Worth_sign {n : Int} (h : ED K ta δ ow (.wt n)) : ED K (tMeth (cW K) "sign" (sp_Worth_sign K) [] E ta tNil) δ ow (.int (sgn n)) := ed_methW n h ea_nil rfl trivial (fs_wt (by decide) (by decide))
theorem c_Worth_units_at {n : Int} (h : ED K ta δ ow (.wt n)) (ha : EA K t δ ow [.int 0]) (p : n % 10 = 0 ∧ n.natAbs < 2 ^ 100) : ED K (tMeth (cW K) "units_at" (sp_Worth_units_at K) [] E ta t) δ ow (.int (n / 10)) := ed_methW n h ha rfl p (fs_wt (by decide) (by decide))
theorem fs_dl {x P a : Int} {m : Str} (h1 : m ≠ "houses") (h2 : m ≠ "block") (h3 : m ≠ "shift") : (dFs x P a).lookup m = none := by
  show List.lookup m [(("houses" : Str), V.int P), ("block", V.int x), ("shift", V.int a)] = none
  rw [List.lookup_cons, List.lookup_cons, List.lookup_cons, beq_false_of_ne h1, beq_false_of_ne h2, beq_false_of_ne h3]
  rfl
theorem c_Deal_turn {x P a : Int} (h : ED K ta δ ow (.deal x P a)) (p : OkD x P a) : ED K (tMeth (cD K) "turn" (sp_Deal_turn K) [] E ta tNil) δ ow (.int (x * P)) := ed_methD (x, P, a) h ea_nil rfl p (fs_dl (by decide) (by decide) (by decide))
end
end KX
/-! What the defs compute: checks, Worths, ways. -/
namespace KX
open PySem PySem.Spec PyProof.Rows L2
abbrev LAW (K : PySem.W.Frag) (t : TS) (δ : KX.Env) (d : D) : Prop := ES K t δ none (fun _ _ => d = .non) (fun x => x = d)
section
variable {K : PySem.W.Frag} {mg : Str → Option Value} {w : World} (Z : Bas K mg)
include Z
theorem l_is_integer {i : Int} : LAW K (t_is_integer w K) [some (.int i)] (.bl true) := by
  refine es_ret (ed_andV (b := true) (ed_cb (ea_cons (ed_var rfl) (ea_cons ed_ty ea_nil)) (rd_isi Z.isW Z.isD rfl ?_)) fun _ => (ed_notV (b := false) (ed_cb (ea_cons (ed_var rfl) (ea_cons ed_ty ea_nil)) (rd_isi Z.isW Z.isD rfl ?_)))) ?_
  · rfl
  · rfl
  · rfl
theorem l_is_whole {i : Int} : LAW K (t_is_whole w K) [some (.int i)] (.bl (decide (0 ≤ i))) := by
  refine es_ret (ed_andV (c_is_integer (ea_cons (ed_var rfl) ea_nil)) fun _ => (ed_B0 (ed_var rfl) ed_int)) ?_
  rfl
theorem l_need_integer {i : Int} : LAW K (t_need_integer w K) [some (.int i)] .non := by
  refine es_if (et_not (et_B (c_is_integer (ea_cons (ed_var rfl) ea_nil)))) (fun h => ?_) (fun h => es_next rfl)
  cases h
theorem l_need_whole {i : Int} (p : 0 ≤ i) : LAW K (t_need_whole w K) [some (.int i)] .non := by
  refine es_if (et_not (et_B (c_is_whole (ea_cons (ed_var rfl) ea_nil)))) (fun h => ?_) (fun h => es_next rfl)
  rw [decide_eq_true p] at h
  cases h
theorem l_need_positive {i : Int} (p : 0 < i) : LAW K (t_need_positive w K) [some (.int i)] .non := by
  refine es_if (et_or (et_not (et_B (c_is_whole (ea_cons (ed_var rfl) ea_nil)))) fun _ => (et_test (ed_eqI (ed_var rfl) ed_int))) (fun h => ?_) (fun h => es_next rfl)
  rw [decide_eq_true (by omega), decide_eq_false (by omega)] at h
  cases h
theorem l_need_items {l : List D} : LAW K (t_need_items w K) [some (.lst l)] .non := by
  refine es_if (et_not (et_B (b := true) (ed_isi2 Z.isW Z.isD (ed_var rfl) rfl ?_))) (fun h => ?_) (fun h => es_next rfl)
  · rfl
  · cases h
theorem l_ten_to {i : Int} (p : i = 0 ∨ i = 1) : LAW K (t_ten_to w K) [some (.int i), none, none] (.int (if i = 0 then 1 else 10)) := by
  refine es_seq (es_asg (ed_tup (ea_cons ed_int (ea_cons ed_int ea_nil)) (by simp)) (eg_tup (egs_cons eg_name (egs_cons eg_name egs_nil))) ?_)
  refine es_seq (es_while (fun m δ' ow' => ow' = none ∧ ∃ n a b : Int, δ' = [some (.int n), some (.int a), some (.int b)] ∧ ((n = i ∧ a = 1 ∧ b = 10 ∧ m = i.toNat) ∨ (n = 0 ∧ i = 1 ∧ a = 10 ∧ m = 0))) i.toNat ⟨rfl, i, 1, 10, rfl, .inl ⟨rfl, rfl, rfl, rfl⟩⟩ ?_)
  rintro m δ' ow' ⟨rfl, n, a, b, rfl, p'⟩
  refine ⟨_, et_test (ed_B0 (ed_var rfl) ed_int), fun h => ?_, fun h => ?_⟩
  · have h := of_decide_eq_true h
    rcases p' with ⟨h1, h2, h3, h4⟩ | ⟨h1, h2, h3, h4⟩
    · have hi : i = 1 := by omega
      subst hi h1 h2 h3
      refine es_seq (es_if (et_test (ed_eqI (ed_I (ed_var rfl) ed_int (by decide)) ed_int)) (fun _ => ?_) (fun h => by cases h))
      refine es_set (ed_I (ed_var rfl) (ed_var rfl) (mul_ok (a := 10) (b := 10) (lit_ok) (lit_ok))) ?_
      refine es_seq (es_set (ed_I (ed_var rfl) (ed_var rfl) (mul_ok (a := 10) (b := 10) (lit_ok) (lit_ok))) ?_)
      refine es_set (ed_I (ed_var rfl) ed_int (divW_ok (by decide) (lit_ok))) ?_
      exact ⟨0, by rw [h4]; decide, rfl, 0, 10, 100, rfl, .inr ⟨rfl, rfl, rfl, rfl⟩⟩
    · omega
  · have h := of_decide_eq_false h
    refine es_ret (ed_var rfl) ?_
    rcases p' with ⟨h1, h2, h3, h4⟩ | ⟨h1, h2, h3, h4⟩
    · rw [if_pos (by omega), h2]
    · rw [if_neg (by omega), h3]
theorem l_lowered {u s : Int} (p : s = 0 ∨ s = 1) : LAW K (t_lowered w K) [some (.int u), some (.int s)] (.tup [.int (wu (tn u s)), .int (wsc (tn u s))]) := by
  refine es_seq (es_if (et_test (ed_eqI (ed_var rfl) ed_int)) (fun h => ?_) (fun h => es_next ?_))
  · refine es_ret (ed_tup (ea_cons ed_int (ea_cons ed_int ea_nil)) (by simp)) ?_
    have h := of_decide_eq_true h
    subst h
    rcases p with rfl | rfl <;> rfl
  have h := of_decide_eq_false h
  refine es_seq (es_while (fun m δ' ow' => ow' = none ∧ ∃ n a : Int, δ' = [some (.int n), some (.int a)] ∧ ((n = u ∧ a = s ∧ m = s.toNat) ∨ (u % 10 = 0 ∧ s = 1 ∧ n = u / 10 ∧ a = 0 ∧ m = 0))) s.toNat ⟨rfl, u, s, rfl, .inl ⟨rfl, rfl, rfl⟩⟩ ?_)
  rintro m δ' ow' ⟨rfl, n, a, rfl, p'⟩
  refine ⟨_, et_and (et_test (ed_B0 (ed_var rfl) ed_int)) fun _ => (et_test (ed_eqI (ed_I (ed_var rfl) ed_int (by decide)) ed_int)), fun h => ?_, fun h => ?_⟩
  · obtain ⟨h1, h2⟩ := Bool.and_eq_true_iff.mp h
    have h1 := of_decide_eq_true h1
    have h2 := of_decide_eq_true h2
    refine es_par (ea_cons (ed_I (ed_var rfl) ed_int (divW_ok (by decide) (lit_ok))) (ea_cons (ed_I0 (ed_var rfl) ed_int) ea_nil)) ?_
    rcases p' with ⟨rfl, rfl, h4⟩ | ⟨h4, h5, h6, h7, h8⟩
    · exact ⟨0, by omega, rfl, n / 10, a - 1, rfl, .inr ⟨h2, by omega, rfl, by omega, rfl⟩⟩
    · omega
  · refine es_ret (ed_tup (ea_cons (ed_var rfl) (ea_cons (ed_var rfl) ea_nil)) (by simp)) ?_
    have key : n = wu (tn u s) ∧ a = wsc (tn u s) := by
      unfold wu wsc tn
      rcases p' with ⟨h4, h5, h6⟩ | ⟨h4, h5, h6, h7, h8⟩
      · subst h4 h5
        rcases p with rfl | rfl
        · rw [if_pos rfl, if_pos (by omega), if_pos (by omega)]
          omega
        · have q : ¬ n % 10 = 0 := fun q => by
            rw [decide_eq_true (by omega), decide_eq_true q] at h
            cases h
          simp [q]
      · subst h5
        simp [h4, h6, h7]
    rw [key.1, key.2]
theorem l_Worth_sign {n : Int} : LAW K (t_Worth_sign w K) [some (.wt n)] (.int (sgn n)) := by
  refine es_ret (ed_I0 (ed_cb (ea_cons (ed_B0 (ed_units Z.clW (Z.noat "Worth" "units") (ed_var rfl)) ed_int) ea_nil) rd_intB) (ed_cb (ea_cons (ed_B0 (ed_units Z.clW (Z.noat "Worth" "units") (ed_var rfl)) ed_int) ea_nil) rd_intB)) ?_
  have q1 : decide (0 < wu n) = decide (0 < n) := decide_eq_decide.mpr (by unfold wu; split <;> omega)
  have q2 : decide (wu n < 0) = decide (n < 0) := decide_eq_decide.mpr (by unfold wu; split <;> omega)
  rw [q1, q2]
  rfl
theorem wu_small {n : Int} {k : Nat} (h : n.natAbs < 2 ^ k) : (wu n).natAbs < 2 ^ k := Nat.lt_of_le_of_lt (by unfold wu; split <;> omega) h
theorem ten_small {i : Int} {k : Nat} (hk : 10 ≤ k := by decide) : (if i = 0 then (1 : Int) else 10).natAbs < 2 ^ k := by
  split
  · exact lit_ok (by decide) hk
  · exact lit_ok (by decide) hk
theorem l_Worth_units_at {n : Int} (p : n % 10 = 0 ∧ n.natAbs < 2 ^ 100) : LAW K (t_Worth_units_at w K) [some (.wt n), some (.int 0)] (.int (n / 10)) := by
  have e : wsc n = 0 := by unfold wsc; rw [if_pos p.1]
  refine es_seq (es_drop (c_need_whole (ea_cons (ed_var rfl) ea_nil) (by decide)) ?_)
  refine es_seq (es_if (et_test (ed_B0 (ed_var rfl) (ed_scale Z.clW (Z.noat "Worth" "scale") (ed_var rfl)))) (fun h => ?_) (fun h => es_next ?_))
  · rw [e] at h
    cases h
  · refine es_ret (ed_I (ed_units Z.clW (Z.noat "Worth" "units") (ed_var rfl)) (c_ten_to (ea_cons (ed_I0 (ed_var rfl) (ed_scale Z.clW (Z.noat "Worth" "scale") (ed_var rfl))) ea_nil) (.inl (by rw [e]; rfl))) (mul_ok (wu_small Z p.2) (ten_small Z (k := 10)))) ?_
    rw [e]
    show D.int (wu n * (if (0 : Int) - 0 = 0 then 1 else 10)) = _
    unfold wu
    rw [if_pos p.1, if_pos (by decide), Int.mul_one]
theorem l_need_worth {n : Int} : LAW K (t_need_worth w K) [some (.wt n)] .non := by
  refine es_if (et_not (et_B (b := true) (ed_cb (ea_cons (ed_var rfl) (ea_cons ed_adr ea_nil)) (rd_isiC Z.isW Z.isD rfl Z.isW.self)))) (fun h => ?_) (fun h => es_next rfl)
  cases h
theorem l_worth_sum {n m : Int} (p : n.natAbs < 2 ^ 3000 ∧ m.natAbs < 2 ^ 3000) : LAW K (t_worth_sum w K) [some (.wt n), some (.wt m), some (.int (-1)), none, none] (.wt (n - m)) := by
  refine es_seq (es_set (ed_cb (ea_cons (ed_scale Z.clW (Z.noat "Worth" "scale") (ed_var rfl)) (ea_cons (ed_scale Z.clW (Z.noat "Worth" "scale") (ed_var rfl)) ea_nil)) rd_max2) ?_)
  have hn : wsc n = 0 ∧ n % 10 = 0 ∧ wu n = n / 10 ∨ wsc n = 1 ∧ n % 10 ≠ 0 ∧ wu n = n := by unfold wsc wu; split <;> simp_all
  have hm : wsc m = 0 ∧ m % 10 = 0 ∧ wu m = m / 10 ∨ wsc m = 1 ∧ m % 10 ≠ 0 ∧ wu m = m := by unfold wsc wu; split <;> simp_all
  have hs : ∀ s, s = (if wsc m > wsc n then wsc m else wsc n) → (s - wsc n = 0 ∨ s - wsc n = 1) ∧ (s - wsc m = 0 ∨ s - wsc m = 1) ∧ (s = 0 ∨ s = 1) := by
    intro s hs
    rcases hn with ⟨a, _⟩ | ⟨a, _⟩ <;> rcases hm with ⟨b, _⟩ | ⟨b, _⟩ <;> rw [a, b] at hs <;> rw [a, b, hs] <;> decide
  obtain ⟨s, es⟩ : ∃ s, s = (if wsc m > wsc n then wsc m else wsc n) := ⟨_, rfl⟩
  obtain ⟨h1, h2, h3⟩ := hs s es
  rw [← es]
  have mm : (-1 * wu m).natAbs < 2 ^ 3000 := by
    have := wu_small Z p.2
    rw [Int.neg_mul, Int.one_mul, Int.natAbs_neg]
    exact this
  refine es_seq (es_set (ed_I (ed_units Z.clW (Z.noat "Worth" "units") (ed_var rfl)) (c_ten_to (ea_cons (ed_I0 (ed_var rfl) (ed_scale Z.clW (Z.noat "Worth" "scale") (ed_var rfl))) ea_nil) h1) (mul_ok (wu_small Z p.1) (ten_small Z (k := 10)))) ?_)
  refine es_ret (ed_mkW (ea_cons (ed_I0 (ed_var rfl) (ed_I (ed_I (ed_var rfl) (ed_units Z.clW (Z.noat "Worth" "units") (ed_var rfl)) (mul_ok (lit_ok (n := 10)) (wu_small Z p.2))) (c_ten_to (ea_cons (ed_I0 (ed_var rfl) (ed_scale Z.clW (Z.noat "Worth" "scale") (ed_var rfl))) ea_nil) h2) (mul_ok mm (ten_small Z (k := 10))))) (ea_cons (ed_var rfl) ea_nil)) h3) ?_
  congr 1
  unfold tn
  rcases hn with ⟨a, a2, a3⟩ | ⟨a, a2, a3⟩ <;> rcases hm with ⟨b, b2, b3⟩ | ⟨b, b2, b3⟩ <;> rw [a, b] at es <;> rw [es, a, b, a3, b3]
  · show 10 * (n / 10 * 1 + -1 * (m / 10) * 1) = n - m
    omega
  · show n / 10 * 10 + -1 * m * 1 = n - m
    omega
  · show n * 1 + -1 * (m / 10) * 10 = n - m
    omega
  · show n * 1 + -1 * m * 1 = n - m
    omega
theorem l_compare {n m : Int} (p : n.natAbs < 2 ^ 3000 ∧ m.natAbs < 2 ^ 3000) : LAW K (t_compare w K) [some (.wt n), some (.wt m)] (.int (sgn (n - m))) := by
  refine es_seq (es_drop (c_need_worth (ea_cons (ed_var rfl) ea_nil)) ?_)
  refine es_seq (es_drop (c_need_worth (ea_cons (ed_var rfl) ea_nil)) ?_)
  refine es_ret (c_Worth_sign (c_worth_sum (ea_cons (ed_var rfl) (ea_cons (ed_var rfl) (ea_cons (ed_U ed_int) ea_nil))) p)) ?_
  rfl
theorem l_need_way {a : Way} : LAW K (t_need_way w K) [some (.str a.s)] .non := by
  refine es_if (et_test (b := false) (ed_inT (ys := waysL) (ed_var rfl) (ed_wr Z.ways fun H => repl_of_str _) ?_)) (fun h => ?_) (fun h => es_next rfl)
  · cases a <;> decide +kernel
  · cases h
end
end KX
/-! What the defs compute: parts, entries, one more. -/
namespace KX
open PySem PySem.Spec PyProof.Rows L2
theorem pow2s (n : Nat) : (2 : Nat) ^ (n + 1) = 2 ^ n + 2 ^ n := by rw [Nat.pow_succ]; omega
section
variable {K : PySem.W.Frag} {mg : Str → Option Value} {w : World} (Z : Bas K mg)
include Z
theorem l_lift {a : Way} {p : Int} {neg odd : Bool} (hp : 0 ≤ p ∧ p ≤ 3) : LAW K (t_lift w K) [some (.str a.s), some (.int p), some (.bl neg), some (.bl odd), none] (.int (liftF a p neg odd)) := by
  refine es_seq (es_if (et_or (et_test (ed_eqI (ed_var rfl) ed_int)) fun _ => (et_test (ed_eqS (ed_var rfl) ed_str))) (fun h => ?_) (fun h => es_next ?_))
  · refine es_ret ed_int ?_
    rcases Bool.or_eq_true_iff.mp h with h | h
    · unfold liftF; rw [if_pos (of_decide_eq_true h)]
    · cases a <;> first | (cases h; done) | (unfold liftF; split <;> rfl) | (exfalso; have h := of_decide_eq_true h; revert h; decide)
  obtain ⟨h1, h2⟩ := Bool.or_eq_false_iff.mp h
  have h1 := of_decide_eq_false h1
  refine es_seq (es_if (et_test (ed_eqS (ed_var rfl) ed_str)) (fun h => ?_) (fun h => es_next ?_))
  · have h := of_decide_eq_true h
    exfalso; cases a <;> (revert h; decide)
  refine es_seq (es_if (et_test (ed_eqS (ed_var rfl) ed_str)) (fun h => ?_) (fun h3 => es_next ?_))
  · refine es_ret (ed_cb (ea_cons (ed_var rfl) ea_nil) rd_intB) ?_
    have h := of_decide_eq_true h
    cases a <;> first | (exfalso; revert h; decide) | (unfold liftF; rw [if_neg h1]; rfl)
  refine es_seq (es_if (et_test (ed_eqS (ed_var rfl) ed_str)) (fun h => ?_) (fun h => es_next ?_))
  · have h := of_decide_eq_true h
    exfalso; cases a <;> (revert h; decide)
  have h3 := of_decide_eq_false h3
  have h2 := of_decide_eq_false h2
  have cs : a = .hu ∨ a = .he ∨ a = .ha := by
    cases a
    · exact .inr (.inl rfl)
    · exact absurd rfl h2
    · exact .inl rfl
    · exact absurd rfl h3
    · exact .inr (.inr rfl)
  refine es_seq (es_if (et_test (ed_neI (ed_var rfl) ed_int)) (fun h => ?_) (fun h => es_next ?_))
  · refine es_ret (ed_cb (ea_cons (ed_eqI (ed_var rfl) ed_int) ea_nil) rd_intB) ?_
    have hp2 : ¬ p = 2 := fun q => by rw [decide_eq_true q] at h; cases h
    rcases cs with rfl | rfl | rfl <;> (unfold liftF; rw [if_neg h1]; simp only [if_neg hp2]; rfl)
  have h4 : p = 2 := by
    by_cases q : p = 2
    · exact q
    · rw [decide_eq_false q] at h
      cases h
  subst h4
  refine es_seq (es_set (ed_disp (kvs := [("halfup", true), ("halfdown", false), ("halfeven", odd), ("halfaway", !neg), ("halfcut", neg)]) (eps_cons ed_str ed_bl (eps_cons ed_str ed_bl (eps_cons ed_str (ed_var rfl) (eps_cons ed_str (ed_notV (ed_var rfl)) (eps_cons ed_str (ed_var rfl) eps_nil))))) (by simp) (by cases neg <;> cases odd <;> rfl)) ?_)
  rcases cs with rfl | rfl | rfl
  · exact es_ret (ed_cb (ea_cons (ed_sdget (b := true) (ed_var rfl) (ed_var rfl) rfl) ea_nil) rd_intB) rfl
  · exact es_ret (ed_cb (ea_cons (ed_sdget (b := odd) (ed_var rfl) (ed_var rfl) rfl) ea_nil) rd_intB) rfl
  · exact es_ret (ed_cb (ea_cons (ed_sdget (b := !neg) (ed_var rfl) (ed_var rfl) rfl) ea_nil) rd_intB) rfl
theorem l_part_of {l d : Int} (p : l.natAbs < 2 ^ 100) : LAW K (t_part_of w K) [some (.int l), some (.int d)] (.int (partF l d)) := by
  refine es_seq (es_if (et_test (ed_eqI (ed_var rfl) ed_int)) (fun h => ?_) (fun h => es_next ?_))
  · refine es_ret ed_int ?_
    unfold partF; rw [if_pos (of_decide_eq_true h)]
  · refine es_ret (ed_I0 (ed_I0 ed_int (ed_cb (ea_cons (ed_B0 (ed_I ed_int (ed_var rfl) (mul_ok (a := 10) lit_ok p)) (ed_var rfl)) ea_nil) rd_intB)) (ed_cb (ea_cons (ed_B0 (ed_I ed_int (ed_var rfl) (mul_ok (a := 10) lit_ok p)) (ed_var rfl)) ea_nil) rd_intB)) ?_
    unfold partF; rw [if_neg (of_decide_eq_false h)]
    rfl
theorem part_range (l d : Int) : 0 ≤ partF l d ∧ partF l d ≤ 3 := by
  unfold partF b2z
  split
  · omega
  · split <;> split <;> omega
theorem l_divided_by {x d : Int} {a : Way} (p : (d = 1 ∨ d = 10) ∧ x.natAbs < 2 ^ 100) : LAW K (t_divided_by w K) [some (.int x), some (.int d), some (.str a.s), none, none] (.int (divF x d a)) := by
  have d0 : 0 < d := by rcases p.1 with rfl | rfl <;> decide
  refine es_seq (es_asg (ed_cb (ea_cons (ed_var rfl) (ea_cons (ed_var rfl) ea_nil)) (rd_divmod (divP_ok d0 (small_ok p.2)))) (eg_tup (egs_cons eg_name (egs_cons eg_name egs_nil))) ?_)
  have sm : (x % d).natAbs < 2 ^ 100 := by
    refine Nat.lt_of_lt_of_le (show (x % d).natAbs < 16 from ?_) (by decide)
    have h1 := Int.emod_nonneg x (show d ≠ 0 by omega)
    have h2 := Int.emod_lt_of_pos x d0
    rcases p.1 with q | q <;> omega
  refine es_ret (ed_I0 (ed_var rfl) (c_lift (ea_cons (ed_var rfl) (ea_cons (c_part_of (ea_cons (ed_var rfl) (ea_cons (ed_var rfl) ea_nil)) sm) (ea_cons (ed_B0 (ed_var rfl) ed_int) (ea_cons (ed_eqI (ed_I (ed_var rfl) ed_int (by decide)) ed_int) ea_nil)))) (part_range Z _ _))) ?_
  rfl
theorem l_is_entry {e : Int × Int} : LAW K (t_is_entry w K) [some (encE e)] (.bl (decide (0 ≤ e.2))) := by
  refine es_seq (es_if (et_or (et_not (et_B (b := true) (ed_isi2 Z.isW Z.isD (ed_var rfl) rfl rfl))) fun _ => (et_test (ed_neI (ed_cb (ea_cons (ed_var rfl) ea_nil) rd_lenT) ed_int))) (fun h => ?_) (fun h => es_next ?_))
  · revert h
    simp
  · refine es_ret (ed_andV (b := true) (ed_cb (ea_cons (ed_ixT (ed_var rfl) ed_int rfl) (ea_cons ed_adr ea_nil)) (rd_isiC Z.isW Z.isD rfl Z.isW.self)) fun _ => (c_is_whole (ea_cons (ed_ixT (ed_var rfl) ed_int rfl) ea_nil))) ?_
    rfl
theorem l_need_entries {es : Ent} (p : OkE es) : LAW K (t_need_entries w K) [some (dE es), none] .non := by
  refine es_seq (es_drop (c_need_items (ea_cons (ed_var rfl) ea_nil)) ?_)
  refine es_forL es encE (fun b _ => b) () (fun _ δ' ow' => ow' = none ∧ ∃ x, δ' = [some (dE es), x]) (eil_list (ed_var rfl)) ⟨rfl, _, rfl⟩ (fun b a δ' ow' ha p' => ?_) (fun δ' ow' p' => rfl)
  obtain ⟨rfl, x, rfl⟩ := p'
  refine ⟨_, eg_name, ?_⟩
  refine es_if (et_not (et_B (c_is_entry (ea_cons (ed_var rfl) ea_nil)))) (fun h => ?_) (fun h => es_next ⟨rfl, _, rfl⟩)
  rw [decide_eq_true (p.nn a ha)] at h
  cases h
theorem l_need_asked {es : Ent} {a : Way} (p : OkE es) : LAW K (t_need_asked w K) [some (dE es), some (.int 0), some (.str a.s)] .non := by
  refine es_seq (es_drop (c_need_entries (ea_cons (ed_var rfl) ea_nil) p) ?_)
  refine es_seq (es_drop (c_need_whole (ea_cons (ed_var rfl) ea_nil) (by decide)) ?_)
  refine es_drop (c_need_way (ea_cons (ed_var rfl) ea_nil)) ?_
  rfl
theorem l_in_parts {n : Int} (p : n.natAbs < 2 ^ 20) : LAW K (t_in_parts w K) [some (.wt n), some (.int 0)] (.tup [.int (wu n), .int (un n)]) := by
  refine es_seq (es_if (et_test (ed_B0 (ed_scale Z.clW (Z.noat "Worth" "scale") (ed_var rfl)) (ed_var rfl))) (fun h => ?_) (fun h => es_next ?_))
  · have h := of_decide_eq_true h
    have h10 : n % 10 = 0 := by
      unfold wsc at h
      split at h
      · assumption
      · omega
    refine es_ret (ed_tup (ea_cons (c_Worth_units_at (ed_var rfl) (ea_cons (ed_var rfl) ea_nil) ⟨h10, small_ok p⟩) (ea_cons ed_int ea_nil)) (by simp)) ?_
    unfold wu un
    rw [if_pos h10, if_pos h10]
  · have h := of_decide_eq_false h
    have h10 : ¬ n % 10 = 0 := by
      unfold wsc at h
      split at h
      · omega
      · assumption
    have e : wsc n = 1 := by unfold wsc; rw [if_neg h10]
    refine es_ret (ed_tup (ea_cons (ed_units Z.clW (Z.noat "Worth" "units") (ed_var rfl)) (ea_cons (c_ten_to (ea_cons (ed_I0 (ed_scale Z.clW (Z.noat "Worth" "scale") (ed_var rfl)) (ed_var rfl)) ea_nil) (.inr (by rw [e]; rfl))) ea_nil)) (by simp)) ?_
    rw [e]
    unfold un
    rw [if_neg h10]
    rfl
theorem un_cases (n : Int) : un n = 1 ∨ un n = 10 := by
  unfold un
  split
  · exact .inl rfl
  · exact .inr rfl
theorem l_loose_parts {n : Int} {a : Way} (p : n.natAbs < 2 ^ 20) : LAW K (t_loose_parts w K) [some (.wt n), some (.int 0), some (.str a.s), none, none, none, none, none] (.tup [.bl (looseF a n), .int (unitF a n)]) := by
  have hu := un_cases Z n
  have d0 : 0 < un n := by rcases hu with q | q <;> rw [q] <;> decide
  have sw := wu_small Z p
  refine es_seq (es_asg (c_in_parts (ea_cons (ed_var rfl) (ea_cons (ed_var rfl) ea_nil)) p) (eg_tup (egs_cons eg_name (egs_cons eg_name egs_nil))) ?_)
  refine es_seq (es_asg (ed_cb (ea_cons (ed_var rfl) (ea_cons (ed_var rfl) ea_nil)) (rd_divmod (divP_ok d0 (small_ok sw)))) (eg_tup (egs_cons eg_name (egs_cons eg_name egs_nil))) ?_)
  have sm : (wu n % un n).natAbs < 2 ^ 100 := by
    refine Nat.lt_of_lt_of_le (show (wu n % un n).natAbs < 16 from ?_) (by decide)
    have h1 := Int.emod_nonneg (wu n) (show un n ≠ 0 by omega)
    have h2 := Int.emod_lt_of_pos (wu n) d0
    rcases hu with q | q <;> omega
  have fin : ∀ δ', δ' = [some (.wt n), some (.int 0), some (.str a.s), some (.int (wu n)), some (.int (un n)), some (.int (wu n / un n)), some (.int (wu n % un n)), some (.bl (looseF a n))] →
      ES K (tRet (tTup (tCons (tVar 7) (tCons (tIf (tB (tVar 7)) (tVar 5) (tCall (sp_divided_by K) [] E0 (tCons (tVar 3) (tCons (tVar 4) (tCons (tVar 2) tNil))))) tNil)))) δ' none (fun _ _ => D.tup [.bl (looseF a n), .int (unitF a n)] = .non) (fun x => x = .tup [.bl (looseF a n), .int (unitF a n)]) := by
    rintro δ' rfl
    refine es_ret (ed_tup (ea_cons (ed_var rfl) (ea_cons (ed_iteI (et_B (ed_var rfl)) (fun _ => (ed_var rfl)) (fun _ => (c_divided_by (ea_cons (ed_var rfl) (ea_cons (ed_var rfl) (ea_cons (ed_var rfl) ea_nil))) ⟨hu, small_ok sw⟩))) ea_nil)) (by simp)) ?_
    rfl
  refine es_seq (es_if (b := decide (a = .cu)) (et_test (ed_inT (ys := ["cut", "away"]) (ed_var rfl) (ed_tup (ea_cons ed_str (ea_cons ed_str ea_nil)) (by simp)) ?_)) (fun h => ?_) (fun h => ?_))
  · cases a <;> decide +kernel
  · have h := of_decide_eq_true h
    subst h
    refine es_set (ed_neI (ed_var rfl) ed_int) (fin _ ?_)
    have e : (!decide (wu n % un n = 0)) = looseF .cu n := by
      unfold looseF
      by_cases q : wu n % un n = 0 <;> simp [q]
    rw [← e]
    rfl
  · have h := of_decide_eq_false h
    refine es_set (ed_andV (b := decide (a = .he ∨ a = .ha)) (ed_inT (ys := ["halfeven", "halfaway", "halfcut"]) (ed_var rfl) (ed_tup (ea_cons ed_str (ea_cons ed_str (ea_cons ed_str ea_nil))) (by simp)) ?_) fun _ => (ed_eqI (ed_I ed_int (ed_var rfl) (mul_ok (a := 10) lit_ok sm)) (ed_var rfl))) (fin _ ?_)
    · cases a <;> decide +kernel
    · have e : (decide (a = .he ∨ a = .ha) && decide (2 * (wu n % un n) = un n)) = looseF a n := by
        cases a
        · simp [looseF]
        · rfl
        · rfl
        · exact absurd rfl h
        · simp [looseF]
      rw [← e]
      rfl
theorem l_added {st u : Int} {a : Way} (p : Sd a) : LAW K (t_added w K) [some (.int st), some (.bl true), some (.int u), some (.str a.s)] (.int (addF a st u)) := by
  refine es_seq (es_if (et_not (et_B (ed_var rfl))) (fun h => by cases h) (fun h => es_next ?_))
  refine es_seq (es_if (et_test (ed_eqS (ed_var rfl) ed_str)) (fun h => ?_) (fun h => es_next ?_))
  · have h := of_decide_eq_true h
    have e : a = .he := by cases a <;> first | rfl | (exfalso; revert h; decide)
    subst e
    exact es_ret (ed_I0 (ed_I0 (ed_var rfl) (ed_var rfl)) (ed_I (ed_I0 (ed_var rfl) (ed_var rfl)) ed_int (by decide))) rfl
  · have h := of_decide_eq_false h
    refine es_ret (ed_I0 (ed_I0 (ed_var rfl) (ed_var rfl)) (ed_cb (ea_cons (ed_eqB (c := decide (a = .cu)) (ed_B0 (ed_I0 (ed_var rfl) (ed_var rfl)) ed_int) (ed_inT (ys := lowerL) (ed_var rfl) (ed_wr Z.lower fun H => repl_of_str _) ?_)) ea_nil) rd_intB)) ?_
    · cases a <;> decide +kernel
    · have e : ∀ x y : Bool, (if decide (x = y) = true then (1 : Int) else 0) = b2z (x == y) := by decide
      rw [e]
      rcases p with rfl | rfl | rfl
      · exact absurd rfl h
      · rfl
      · rfl
theorem l_added_often {st u t : Int} {a : Way} (p : Sd a ∧ u.natAbs < 2 ^ 21 ∧ t.natAbs < 2 ^ 2000) : LAW K (t_added_often w K) [some (.int st), some (.int u), some (.int t), some (.str a.s), none, none, none, none] (.int (oftF a st u t)) := by
  obtain ⟨p1, p2, p3⟩ := p
  refine es_seq (es_if (et_test (ed_eqS (ed_var rfl) ed_str)) (fun h => ?_) (fun h => es_next ?_))
  · have h := of_decide_eq_true h
    have e : a = .he := by cases a <;> first | rfl | (exfalso; revert h; decide)
    subst e
    have q1 : (t - 1).natAbs < 2 ^ 2001 := by
      have : (t - 1).natAbs ≤ t.natAbs + 1 := by omega
      have : (2 : Nat) ^ 2001 = 2 ^ 2000 + 2 ^ 2000 := pow2s 2000
      have : 0 < (2 : Nat) ^ 2000 := Nat.pow_pos (by decide)
      omega
    have q2 : (u + u % 2).natAbs < 2 ^ 22 := by omega
    exact es_ret (ed_I0 (c_added (ea_cons (ed_var rfl) (ea_cons ed_bl (ea_cons (ed_var rfl) (ea_cons (ed_var rfl) ea_nil)))) p1) (ed_I (ed_I0 (ed_var rfl) ed_int) (ed_I0 (ed_var rfl) (ed_I (ed_var rfl) ed_int (by decide))) (mul_ok q1 q2))) rfl
  have h := of_decide_eq_false h
  have hne : a = .cu ∨ a = .ha := by
    rcases p1 with rfl | q | q
    · exact absurd rfl h
    · exact .inl q
    · exact .inr q
  have hstep : addF a st u - st = u ∨ addF a st u - st = u + 1 := by
    rcases hne with rfl | rfl <;> (unfold addF b2z; dsimp only; split <;> omega)
  obtain ⟨step, es⟩ : ∃ x, x = addF a st u - st := ⟨_, rfl⟩
  rw [← es] at hstep
  have ss : step.natAbs < 2 ^ 22 := by omega
  have so : (2 * u + 1 - step).natAbs < 2 ^ 24 := by omega
  refine es_seq (es_set (ed_I0 (ed_var rfl) (ed_var rfl)) ?_)
  refine es_seq (es_set (ed_I0 (c_added (ea_cons (ed_var rfl) (ea_cons ed_bl (ea_cons (ed_var rfl) (ea_cons (ed_var rfl) ea_nil)))) p1) (ed_var rfl)) ?_)
  rw [← es]
  refine es_seq (es_par (ea_cons (ed_I0 (ed_I0 (ed_I ed_int (ed_var rfl) (mul_ok (a := 10) lit_ok p2)) ed_int) (ed_var rfl)) (ea_cons (ed_var rfl) ea_nil)) ?_)
  refine es_cut (fun δ' ow' => ow' = none ∧ ∃ y, δ' = [some (.int st), some (.int u), some (.int t), some (.str a.s), some (.int (st + u)), some (.int step), some (.int (2 * u + 1 - step)), some (.int y)] ∧ y = if 0 ≤ st + u ∧ step < 0 then mn t ((st + u) / (-step) + 1) else t) ?_ ?_
  · refine es_if (et_and (et_test (ed_B0 (ed_var rfl) ed_int)) fun _ => (et_test (ed_B0 (ed_var rfl) ed_int))) (fun h => ?_) (fun h => es_next ?_)
    · obtain ⟨h1, h2⟩ := Bool.and_eq_true_iff.mp h
      have h1 := of_decide_eq_true h1
      have h2 := of_decide_eq_true h2
      refine es_set (ed_cb (ea_cons (ed_var rfl) (ea_cons (ed_I0 (ed_I (ed_var rfl) (ed_U (ed_var rfl)) (divW_ok (by omega) (by rw [Int.natAbs_neg]; exact small_ok ss))) ed_int) ea_nil)) rd_min2) ?_
      refine ⟨rfl, _, rfl, ?_⟩
      rw [if_pos (And.intro h1 h2)]
      rfl
    · refine ⟨rfl, _, rfl, ?_⟩
      rw [if_neg]
      rintro ⟨h1, h2⟩
      rw [decide_eq_true h1, decide_eq_true h2] at h
      cases h
  rintro δ' ow' ⟨rfl, y, rfl, ey⟩
  have key : oftF a st u t = st + (if st + u < 0 ∧ 0 < step then mn t ((step - 1 - (st + u)) / step) else y) * step + (t - (if st + u < 0 ∧ 0 < step then mn t ((step - 1 - (st + u)) / step) else y)) * (2 * u + 1 - step) := by
    rw [ey, es]
    rcases hne with rfl | rfl <;> rfl
  have sy : ∀ y', (y' = t ∨ (0 ≤ y' ∧ y' ≤ t) ∨ (0 ≤ y' ∧ 0 ≤ t ∧ y' ≤ t) ∨ y' = mn t ((st + u) / (-step) + 1) ∧ 0 ≤ (st + u) / (-step) + 1 ∨ (y' = mn t ((step - 1 - (st + u)) / step) ∧ 0 ≤ (step - 1 - (st + u)) / step)) → y'.natAbs < 2 ^ 2000 := by
    intro y' hy
    have : y'.natAbs ≤ t.natAbs := by
      rcases hy with h | h | h | h | h
      · rw [h]; exact Nat.le_refl _
      · omega
      · omega
      · obtain ⟨h, h2⟩ := h
        rw [h]
        unfold mn
        split <;> omega
      · obtain ⟨h, h2⟩ := h
        rw [h]
        unfold mn
        split <;> omega
    omega
  have sy0 : y.natAbs < 2 ^ 2000 := by
    apply sy
    rw [ey]
    split
    · rename_i c
      have := Int.ediv_nonneg c.1 (show 0 ≤ -step by omega)
      exact .inr (.inr (.inr (.inl ⟨rfl, by omega⟩)))
    · exact .inl rfl
  have bt : ∀ y', y'.natAbs < 2 ^ 2000 → (t - y').natAbs < 2 ^ 2001 := by
    intro y' hy
    have : (2 : Nat) ^ 2001 = 2 ^ 2000 + 2 ^ 2000 := pow2s 2000
    omega
  refine es_cut (fun δ' ow' => ow' = none ∧ ∃ y', δ' = [some (.int st), some (.int u), some (.int t), some (.str a.s), some (.int (st + u)), some (.int step), some (.int (2 * u + 1 - step)), some (.int y')] ∧ (y' = if st + u < 0 ∧ 0 < step then mn t ((step - 1 - (st + u)) / step) else y) ∧ y'.natAbs < 2 ^ 2000) ?_ ?_
  · refine es_if (et_and (et_test (ed_B0 (ed_var rfl) ed_int)) fun _ => (et_test (ed_B0 (ed_var rfl) ed_int))) (fun h => ?_) (fun h => es_next ?_)
    · obtain ⟨h1, h2⟩ := Bool.and_eq_true_iff.mp h
      have h1 := of_decide_eq_true h1
      have h2 := of_decide_eq_true h2
      refine es_set (ed_cb (ea_cons (ed_var rfl) (ea_cons (ed_I (ed_I0 (ed_I0 (ed_var rfl) ed_int) (ed_var rfl)) (ed_var rfl) (divW_ok h2 (small_ok ss))) ea_nil)) rd_min2) ?_
      refine ⟨rfl, _, rfl, ?_, ?_⟩
      · rw [if_pos (And.intro h1 h2)]
        rfl
      · exact sy _ (.inr (.inr (.inr (.inr ⟨rfl, Int.ediv_nonneg (by omega) (by omega)⟩))))
    · refine ⟨rfl, _, rfl, ?_, sy0⟩
      rw [if_neg]
      rintro ⟨h1, h2⟩
      rw [decide_eq_true h1, decide_eq_true h2] at h
      cases h
  rintro δ' ow' ⟨rfl, y', rfl, ey', sy'⟩
  refine es_ret (ed_I0 (ed_I0 (ed_var rfl) (ed_I (ed_var rfl) (ed_var rfl) (mul_ok sy' ss))) (ed_I (ed_I0 (ed_var rfl) (ed_var rfl)) (ed_var rfl) (mul_ok (bt _ sy') so))) ?_
  rw [key, ← ey']
end
end KX
/-! What the defs compute: totals, ends. -/
namespace KX
open PySem PySem.Spec PyProof.Rows L2
theorem sum_ge : ∀ {l : List Int}, (∀ x ∈ l, 0 ≤ x) → ∀ x ∈ l, x ≤ l.sum
  | [], _, x, h => by cases h
  | y :: l, p, x, h => by
    have hl : 0 ≤ l.sum := by
      have : ∀ l : List Int, (∀ x ∈ l, 0 ≤ x) → 0 ≤ l.sum := by
        intro l
        induction l with
        | nil => intro _; exact Int.le_refl _
        | cons z l ih =>
          intro q
          rw [List.sum_cons]
          have := q z List.mem_cons_self
          have := ih fun x hx => q x (List.mem_cons_of_mem _ hx)
          omega
      exact this l fun x hx => p x (List.mem_cons_of_mem _ hx)
    rw [List.sum_cons]
    rcases List.mem_cons.mp h with e | e
    · omega
    · have := sum_ge (fun x hx => p x (List.mem_cons_of_mem _ hx)) x e
      have := p y List.mem_cons_self
      omega
theorem nat_lt_of {x : Int} {n : Nat} (h0 : 0 ≤ x) (h : x < 2 ^ n) : x.natAbs < 2 ^ n := by
  have e : ((2 : Nat) ^ n : Nat) = ((2 : Int) ^ n) := by norm_cast
  have : (x.natAbs : Int) < ((2 ^ n : Nat) : Int) := by rw [e]; omega
  exact Int.ofNat_lt.mp this
theorem OkE.big {es : Ent} (p : OkE es) {e : Int × Int} (h : e ∈ es) : e.2.natAbs < 2 ^ 500 := by
  have h1 := sum_ge (l := es.map (·.2)) (fun x hx => by
    obtain ⟨e', he', rfl⟩ := List.mem_map.mp hx
    exact p.nn e' he') e.2 (List.mem_map_of_mem h)
  have h2 := p.tot
  exact nat_lt_of (p.nn e h) (by omega)
theorem un_pos (n : Int) : un n = 1 ∨ un n = 10 := by
  unfold un
  split
  · exact .inl rfl
  · exact .inr rfl
theorem lift_range (w : Way) (p : Int) (a b : Bool) : 0 ≤ liftF w p a b ∧ liftF w p a b ≤ 1 := by
  unfold liftF b2z
  split
  · omega
  · cases w <;> dsimp only <;> first | omega | (split <;> first | omega | (split <;> omega))
theorem div_small {n : Int} {w : Way} (h : n.natAbs < 2 ^ 20) : (divF (wu n) (un n) w).natAbs < 2 ^ 21 := by
  have h1 := lift_range w (partF (wu n % un n) (un n)) (decide (wu n < 0)) (decide (wu n / un n % 2 = 1))
  have h2 : (wu n).natAbs < 2 ^ 20 := Nat.lt_of_le_of_lt (by unfold wu; split <;> omega) h
  unfold divF
  generalize liftF w (partF (wu n % un n) (un n)) (decide (wu n < 0)) (decide (wu n / un n % 2 = 1)) = z at h1
  rcases un_pos n with q | q <;> rw [q] <;> omega
theorem unit_small {n : Int} {w : Way} (h : n.natAbs < 2 ^ 20) : (unitF w n).natAbs < 2 ^ 21 := by
  unfold unitF
  split
  · have h2 : (wu n).natAbs < 2 ^ 20 := Nat.lt_of_le_of_lt (by unfold wu; split <;> omega) h
    rcases un_pos n with q | q <;> rw [q] <;> omega
  · exact div_small h
theorem loose_sd {n : Int} {w : Way} (h : looseF w n = true) : Sd w := by
  cases w
  · exact .inl rfl
  · cases h
  · cases h
  · exact .inr (.inl rfl)
  · exact .inr (.inr rfl)
theorem atI_last {ds : List D} {d : D} (h : ds.getLast? = some d) : atI ds (-1) = some d := by
  have hne : 0 < ds.length := by
    cases ds
    · cases h
    · simp
  have e : ixN ds.length (-1) = some (ds.length - 1) := by
    unfold ixN
    rw [if_neg (by decide), if_pos (by omega)]
    congr 1
    omega
  unfold atI
  rw [e]
  rw [List.getLast?_eq_getElem?] at h
  exact h
theorem ixN_last {n : Nat} (h : 0 < n) : ixN n (-1) = some (n - 1) := by
  unfold ixN
  rw [if_neg (by decide), if_pos (by omega)]
  congr 1
  omega
section
variable {K : PySem.W.Frag} {mg : Str → Option Value} {w : World} (Z : Bas K mg)
include Z
theorem l_running_units {es : Ent} {a : Way} (p : OkE es) : LAW K (t_running_units w K) [some (dE es), some (.int 0), some (.str a.s), none, none, none, none, none] (.int (runF a es)) := by
  refine es_seq (es_set ed_int ?_)
  refine es_seq (es_forL es encE (fun st e => cst a st (prt a e.1) e.2) 0 (fun st δ' ow' => ow' = none ∧ ∃ x1 x2 x3 x4, δ' = [some (dE es), some (.int 0), some (.str a.s), some (.int st), x1, x2, x3, x4]) (eil_list (ed_var rfl)) ⟨rfl, _, _, _, _, rfl⟩ (fun st e δ' ow' he p' => ?_) (fun δ' ow' p' => ?_))
  · obtain ⟨rfl, x1, x2, x3, x4, rfl⟩ := p'
    refine ⟨_, eg_tup (egs_cons eg_name (egs_cons eg_name egs_nil)), ?_⟩
    have sn := p.sm e he
    have st2 := p.big he
    refine es_seq (es_asg (c_loose_parts a (ea_cons (ed_var rfl) (ea_cons (ed_var rfl) (ea_cons (ed_var rfl) ea_nil))) sn) (eg_tup (egs_cons eg_name (egs_cons eg_name egs_nil))) ?_)
    refine es_if (et_not (et_B (ed_var rfl))) (fun h => ?_) (fun h => ?_)
    · refine es_aug rfl (ed_I (ed_var rfl) (ed_var rfl) (mul_ok st2 (unit_small sn))) ?_
      have e1 : cst a st (prt a e.1) e.2 = st + e.2 * unitF a e.1 := by
        unfold cst prt
        rw [if_pos h]
      rw [e1]
      exact ⟨rfl, _, _, _, _, rfl⟩
    · have hl : looseF a e.1 = true := by
        cases q : looseF a e.1
        · rw [q] at h; cases h
        · rfl
      refine es_if (et_test (ed_B0 (ed_var rfl) ed_int)) (fun h2 => ?_) (fun h2 => ?_)
      · refine es_set (c_added_often (ea_cons (ed_var rfl) (ea_cons (ed_var rfl) (ea_cons (ed_var rfl) (ea_cons (ed_var rfl) ea_nil)))) ⟨loose_sd hl, unit_small sn, small_ok st2⟩) ?_
        have e1 : cst a st (prt a e.1) e.2 = oftF a st (unitF a e.1) e.2 := by
          unfold cst prt
          rw [if_neg (by simp [hl]), if_pos (of_decide_eq_true h2)]
        rw [e1]
        exact ⟨rfl, _, _, _, _, rfl⟩
      · refine es_next ?_
        have e1 : cst a st (prt a e.1) e.2 = st := by
          unfold cst prt
          rw [if_neg (by simp [hl]), if_neg (of_decide_eq_false h2)]
        rw [e1]
        exact ⟨rfl, _, _, _, _, rfl⟩
  · obtain ⟨rfl, x1, x2, x3, x4, rfl⟩ := p'
    exact es_ret (ed_var rfl) rfl
theorem least_of : ∀ {ns : List Int}, ns ≠ [] → ∃ m ∈ ns, ∀ y ∈ ns, m ≤ y
  | [], h => absurd rfl h
  | [x], _ => ⟨x, List.mem_cons_self, fun y hy => by rw [List.mem_singleton.mp hy]; exact Int.le_refl _⟩
  | x :: z :: l, _ => by
    obtain ⟨m, h1, h2⟩ := least_of (ns := z :: l) (by simp)
    by_cases q : x ≤ m
    · refine ⟨x, List.mem_cons_self, fun y hy => ?_⟩
      rcases List.mem_cons.mp hy with e | e
      · rw [e]; exact Int.le_refl _
      · exact Int.le_trans q (h2 y e)
    · refine ⟨m, List.mem_cons_of_mem _ h1, fun y hy => ?_⟩
      rcases List.mem_cons.mp hy with e | e
      · omega
      · exact h2 y e
theorem greatest_of {ns : List Int} (h : ns ≠ []) : ∃ m ∈ ns, ∀ y ∈ ns, y ≤ m := by
  obtain ⟨m, h1, h2⟩ := least_of Z (ns := ns.map (-·)) (by simpa using h)
  obtain ⟨m', h3, rfl⟩ := List.mem_map.mp h1
  refine ⟨m', h3, fun y hy => ?_⟩
  have := h2 (-y) (List.mem_map_of_mem hy)
  omega
theorem l_free_entries {es : Ent} {a : Way} (p : OkE es) : LAW K (t_free_entries w K) [some (dE es), some (.int 0), some (.str a.s), none, none, none, none] (.bl (freeF a es)) := by
  obtain ⟨th, eth⟩ : ∃ x, x = (es.filter fun e => decide (0 < e.2)).map (·.1) := ⟨_, rfl⟩
  have hfew : (es.filter fun e => decide (0 < e.2)).length ≤ 3 := Nat.le_trans (List.length_filter_le _ _) p.few
  have hth : th.length ≤ 3 := by rw [eth, List.length_map]; exact hfew
  have hsm : ∀ n ∈ th, n.natAbs < 2 ^ 20 := fun n hn => by
    rw [eth] at hn
    obtain ⟨e, he, rfl⟩ := List.mem_map.mp hn
    exact p.sm e (List.mem_filter.mp he).1
  refine es_seq (es_set (d := .lst (th.map D.wt)) (ed_is (ed_lcL es encE (fun e => decide (0 < e.2)) (fun e => .wt e.1) (eil_list (ed_var rfl)) (gw_tup (gws_cons mo_name (gw_name (by simp)) (gws_cons mo_name (gw_name (by simp)) gws_nil))) (fun _ _ => rfl) (by have := p.few; omega) (fun e he => ⟨_, eg_tup (egs_cons eg_name (egs_cons eg_name egs_nil)), et_test (ed_B0 (ed_var rfl) ed_int), fun _ => ed_var rfl⟩)) (by rw [eth, List.map_map]; rfl)) ?_)
  refine es_seq (es_if (et_not (et_B (ed_cb (ea_cons (ed_is (d' := .lst ((th.map (looseF a)).map D.bl)) (ed_lcA th D.wt (fun n => .bl (looseF a n)) (eil_list (ed_var rfl)) (gw_name (by simp)) (fun _ _ => rfl) (by omega) (fun n hn => ⟨_, eg_name, ed_ixT (c_loose_parts a (ea_cons (ed_var rfl) (ea_cons (ed_var rfl) (ea_cons (ed_var rfl) ea_nil))) (hsm n hn)) ed_int rfl⟩)) (by rw [List.map_map]; rfl)) ea_nil) rd_any))) (fun h => ?_) (fun h => es_next ?_))
  · refine es_ret ed_bl ?_
    have h : (!(th.map (looseF a)).any id) = true := h
    rw [List.any_map] at h
    have h : (!th.any (looseF a)) = true := h
    unfold freeF
    rw [← eth]
    dsimp only
    rw [h]
    rfl
  have h : (!(th.map (looseF a)).any id) = false := h
  rw [List.any_map] at h
  have h : (!th.any (looseF a)) = false := h
  have hne : th ≠ [] := fun q => by rw [q] at h; cases h
  obtain ⟨m, hm1, hm2⟩ := least_of Z (ns := th.map sgn) (by simpa using hne)
  obtain ⟨M, hM1, hM2⟩ := greatest_of Z (ns := th.map sgn) (by simpa using hne)
  refine es_seq (es_set (d := .lst ((th.map sgn).map D.int)) (ed_is (ed_lcA th D.wt (fun n => .int (sgn n)) (eil_list (ed_var rfl)) (gw_name (by simp)) (fun _ _ => rfl) (by omega) (fun n hn => ⟨_, eg_name, c_Worth_sign (ed_var rfl)⟩)) (by rw [List.map_map]; rfl)) ?_)
  refine es_ret (ed_andV (b := decide (a = .cu ∨ a = .ha)) (ed_inT (ys := sidedL) (ed_var rfl) (ed_wr Z.sided fun H => repl_of_str _) ?_) fun _ => (ed_orV (ed_B0 (ed_cb (ea_cons (ed_var rfl) ea_nil) (rd_minL hm1 hm2)) ed_int) fun _ => (ed_B0 (ed_cb (ea_cons (ed_var rfl) ea_nil) (rd_maxL hM1 hM2)) ed_int))) ?_
  · cases a <;> decide +kernel
  · unfold freeF
    rw [← eth]
    dsimp only
    rw [h]
    have e1 : decide (0 ≤ m) = th.all fun n => decide (0 ≤ sgn n) := by
      rw [Bool.eq_iff_iff, decide_eq_true_eq, List.all_eq_true]
      constructor
      · intro q n hn
        have := hm2 (sgn n) (List.mem_map_of_mem hn)
        exact decide_eq_true (by omega)
      · intro q
        obtain ⟨n, hn, rfl⟩ := List.mem_map.mp hm1
        exact of_decide_eq_true (q n hn)
    have e2 : decide (M ≤ 0) = th.all fun n => decide (sgn n ≤ 0) := by
      rw [Bool.eq_iff_iff, decide_eq_true_eq, List.all_eq_true]
      constructor
      · intro q n hn
        have := hM2 (sgn n) (List.mem_map_of_mem hn)
        exact decide_eq_true (by omega)
      · intro q
        obtain ⟨n, hn, rfl⟩ := List.mem_map.mp hM1
        exact of_decide_eq_true (q n hn)
    rw [e1, e2]
    rfl
theorem l_single_total {es : Ent} {a : Way} (p : OkE es) : LAW K (t_single_total w K) [some (dE es), some (.int 0), some (.str a.s), none, none, none, none, none] (.wt (10 * singF a es)) := by
  refine es_seq (es_drop (c_need_asked (ea_cons (ed_var rfl) (ea_cons (ed_var rfl) (ea_cons (ed_var rfl) ea_nil))) p) ?_)
  refine es_seq (es_set ed_int ?_)
  refine es_seq (es_forL es encE (fun s e => s + e.2 * divF (wu e.1) (un e.1) a) 0 (fun st δ' ow' => ow' = none ∧ ∃ x1 x2 x3 x4, δ' = [some (dE es), some (.int 0), some (.str a.s), some (.int st), x1, x2, x3, x4]) (eil_list (ed_var rfl)) ⟨rfl, _, _, _, _, rfl⟩ (fun st e δ' ow' he p' => ?_) (fun δ' ow' p' => ?_))
  · obtain ⟨rfl, x1, x2, x3, x4, rfl⟩ := p'
    refine ⟨_, eg_tup (egs_cons eg_name (egs_cons eg_name egs_nil)), ?_⟩
    have sn := p.sm e he
    refine es_seq (es_asg (c_in_parts (ea_cons (ed_var rfl) (ea_cons (ed_var rfl) ea_nil)) sn) (eg_tup (egs_cons eg_name (egs_cons eg_name egs_nil))) ?_)
    refine es_aug rfl (ed_I (ed_var rfl) (c_divided_by (ea_cons (ed_var rfl) (ea_cons (ed_var rfl) (ea_cons (ed_var rfl) ea_nil))) ⟨un_pos _, small_ok (wu_small Z sn)⟩) (mul_ok (p.big he) (div_small sn))) ?_
    exact ⟨rfl, _, _, _, _, rfl⟩
  · obtain ⟨rfl, x1, x2, x3, x4, rfl⟩ := p'
    refine es_ret (ed_mkW (ea_cons (ed_var rfl) (ea_cons (ed_var rfl) ea_nil)) (.inl rfl)) ?_
    rfl
theorem l_running_total {es : Ent} {a : Way} (p : OkE es) : LAW K (t_running_total w K) [some (dE es), some (.int 0), some (.str a.s)] (.wt (10 * runF a es)) := by
  refine es_seq (es_drop (c_need_asked (ea_cons (ed_var rfl) (ea_cons (ed_var rfl) (ea_cons (ed_var rfl) ea_nil))) p) ?_)
  exact es_ret (ed_mkW (ea_cons (c_running_units (ea_cons (ed_var rfl) (ea_cons (ed_var rfl) (ea_cons (ed_var rfl) ea_nil))) p) (ea_cons (ed_var rfl) ea_nil)) (.inl rfl)) rfl
theorem l_is_free {es : Ent} {a : Way} (p : OkE es) : LAW K (t_is_free w K) [some (dE es), some (.int 0), some (.str a.s)] (.bl (freeF a es)) := by
  refine es_seq (es_drop (c_need_asked (ea_cons (ed_var rfl) (ea_cons (ed_var rfl) (ea_cons (ed_var rfl) ea_nil))) p) ?_)
  exact es_ret (c_free_entries (ea_cons (ed_var rfl) (ea_cons (ed_var rfl) (ea_cons (ed_var rfl) ea_nil))) p) rfl
theorem l_even_ends {es : Ent} (p : OkE es) : LAW K (t_even_ends w K) [some (dE es), some (.int 0), none, none, none, none, none, none, none, none] (.tup [.int (endLo es), .int (endHi es)]) := by
  refine es_seq (es_asg (ed_tup (ea_cons ed_int (ea_cons ed_int (ea_cons ed_int (ea_cons ed_int ea_nil)))) (by simp)) (eg_tup (egs_cons eg_name (egs_cons eg_name (egs_cons eg_name (egs_cons eg_name egs_nil))))) ?_)
  refine es_seq (es_forL es encE endStep (0, 0, 0, 0) (fun st δ' ow' => ow' = none ∧ ∃ x1 x2 x3 x4, δ' = [some (dE es), some (.int 0), some (.int st.1), some (.int st.2.1), some (.int st.2.2.1), some (.int st.2.2.2), x1, x2, x3, x4]) (eil_list (ed_var rfl)) ⟨rfl, _, _, _, _, rfl⟩ (fun st e δ' ow' he p' => ?_) (fun δ' ow' p' => ?_))
  · obtain ⟨rfl, x1, x2, x3, x4, rfl⟩ := p'
    refine ⟨_, eg_tup (egs_cons eg_name (egs_cons eg_name egs_nil)), ?_⟩
    have sn := p.sm e he
    have bg := p.big he
    refine es_seq (es_asg (c_loose_parts .he (ea_cons (ed_var rfl) (ea_cons (ed_var rfl) (ea_cons ed_str ea_nil))) sn) (eg_tup (egs_cons eg_name (egs_cons eg_name egs_nil))) ?_)
    refine es_seq (es_aug rfl (ed_I (ed_var rfl) (ed_var rfl) (mul_ok bg (unit_small sn))) ?_)
    refine es_if (et_not (et_B (ed_var rfl))) (fun h => ?_) (fun h => ?_)
    · have hl : looseF .he e.1 = false := by
        cases q : looseF .he e.1
        · rfl
        · rw [q] at h; cases h
      have um : (unitF .he e.1 % 2).natAbs < 2 ^ 10 := by omega
      refine es_aug rfl (ed_I (ed_var rfl) (ed_I (ed_var rfl) ed_int (by decide)) (mul_ok bg um)) ?_
      have e1 : endStep st e = (st.1 + e.2 * unitF .he e.1, st.2.1, st.2.2.1, st.2.2.2 + e.2 * (unitF .he e.1 % 2)) := by simp [endStep, hl]
      rw [e1]
      exact ⟨rfl, _, _, _, _, rfl⟩
    · have hl : looseF .he e.1 = true := by
        cases q : looseF .he e.1
        · rw [q] at h; cases h
        · rfl
      refine es_if (et_test (ed_eqI (ed_I (ed_var rfl) ed_int (by decide)) ed_int)) (fun h2 => ?_) (fun h2 => ?_)
      · have h2 := of_decide_eq_true h2
        refine es_aug rfl (ed_var rfl) ?_
        have e1 : endStep st e = (st.1 + e.2 * unitF .he e.1, st.2.1 + e.2, st.2.2.1, st.2.2.2) := by simp [endStep, hl, h2]
        rw [e1]
        exact ⟨rfl, _, _, _, _, rfl⟩
      · have h2 := of_decide_eq_false h2
        refine es_aug rfl (ed_var rfl) ?_
        have e1 : endStep st e = (st.1 + e.2 * unitF .he e.1, st.2.1, st.2.2.1 + e.2, st.2.2.2) := by simp [endStep, hl, h2]
        rw [e1]
        exact ⟨rfl, _, _, _, _, rfl⟩
  · obtain ⟨rfl, x1, x2, x3, x4, rfl⟩ := p'
    exact es_ret (ed_tup (ea_cons (ed_I0 (ed_I0 (ed_var rfl) (ed_var rfl)) (ed_cb (ea_cons (ed_var rfl) (ea_cons (ed_var rfl) ea_nil)) rd_min2)) (ea_cons (ed_I0 (ed_I0 (ed_var rfl) (ed_var rfl)) (ed_cb (ea_cons (ed_var rfl) (ea_cons (ed_var rfl) ea_nil)) rd_min2)) ea_nil)) (by simp)) rfl
end
end KX
/-! What the defs compute: ends of all orders, giving. -/
namespace KX
open PySem PySem.Spec PyProof.Rows L2
theorem OkE.neg {es : Ent} (p : OkE es) : OkE (negE es) := by
  refine ⟨by unfold negE; rw [List.length_map]; exact p.few, fun e he => ?_, fun e he => ?_, ?_⟩
  · obtain ⟨e', h, rfl⟩ := List.mem_map.mp he
    exact p.nn e' h
  · obtain ⟨e', h, rfl⟩ := List.mem_map.mp he
    have := p.sm e' h
    show (-e'.1).natAbs < _
    rw [Int.natAbs_neg]
    exact this
  · unfold negE
    rw [List.map_map]
    exact p.tot
theorem bs_fuel (p : Int → Bool) : ∀ (n : Nat) (lo hi : Int), (hi - lo).toNat ≤ n → bsF p n lo hi = bsF p (hi - lo).toNat lo hi := by
  intro n
  induction n using Nat.strongRecOn with
  | ind n ih =>
    intro lo hi h
    cases n with
    | zero => rw [Nat.le_zero.mp h]
    | succ n =>
      by_cases q : lo < hi
      · obtain ⟨m, hm⟩ : ∃ m, (hi - lo).toNat = m + 1 := ⟨(hi - lo).toNat - 1, by omega⟩
        rw [hm]
        unfold bsF
        rw [if_pos q, if_pos q]
        split
        · rw [ih n (by omega) lo _ (by omega)]
          by_cases e : m = n
          · rw [e, ih n (by omega) lo _ (by omega)]
          · rw [ih m (by omega) lo _ (by omega)]
        · rw [ih n (by omega) _ hi (by omega)]
          by_cases e : m = n
          · rw [e, ih n (by omega) _ hi (by omega)]
          · rw [ih m (by omega) _ hi (by omega)]
      · have e : (hi - lo).toNat = 0 := by omega
        rw [e]
        unfold bsF
        rw [if_neg q]
theorem bs_step (p : Int → Bool) {lo hi : Int} (q : lo < hi) : bsF p (hi - lo).toNat lo hi = if p ((lo + hi) / 2) = true then bsF p ((lo + hi) / 2 - lo).toNat lo ((lo + hi) / 2) else bsF p (hi - ((lo + hi) / 2 + 1)).toNat ((lo + hi) / 2 + 1) hi := by
  obtain ⟨m, hm⟩ : ∃ m, (hi - lo).toNat = m + 1 := ⟨(hi - lo).toNat - 1, by omega⟩
  rw [hm]
  show (if lo < hi then (if p ((lo + hi) / 2) = true then bsF p m lo ((lo + hi) / 2) else bsF p m ((lo + hi) / 2 + 1) hi) else lo) = _
  rw [if_pos q]
  split
  · exact bs_fuel p m _ _ (by omega)
  · exact bs_fuel p m _ _ (by omega)
theorem sgn_eq {n : Int} : (sgn n = 1 ↔ 0 < n) ∧ (sgn n = -1 ↔ n < 0) := by
  unfold sgn b2z
  by_cases h1 : 0 < n
  · rw [decide_eq_true h1, decide_eq_false (by omega)]
    simp
    omega
  · by_cases h2 : n < 0
    · rw [decide_eq_false h1, decide_eq_true h2]
      simp
      omega
    · rw [decide_eq_false h1, decide_eq_false h2]
      simp
      omega
theorem loose_zero (w : Way) : looseF w 0 = false := by cases w <;> decide
theorem b2z_ite (b : Bool) : (if b = true then (1 : Int) else 0) = b2z b := by cases b <;> rfl
section
variable {K : PySem.W.Frag} {mg : Str → Option Value} {w : World} (Z : Bas K mg)
include Z
/-- what sided_top's loop keeps -/
def TopI (a : Way) (es : Ent) (room : Int) (costs : List (Int × Int)) : Prop :=
  (a = .cu ∧ (∀ e ∈ es, 0 ≤ e.1) ∧ room = 0 ∧ ∀ c ∈ costs, 1 ≤ c.1 ∧ 0 ≤ c.2 ∧ c.1.natAbs < 2 ^ 22) ∨ (((a = .cu ∧ ∀ e ∈ es, e.1 ≤ 0) ∨ (a = .ha ∧ ∀ e ∈ es, 0 ≤ e.1)) ∧ costs = []) ∨ (a = .ha ∧ (∀ e ∈ es, e.1 ≤ 0) ∧ room = -1)
def topStep (a : Way) (s : Int) (e : Int × Int) : Int := s + e.2 * unitF a e.1 + (if sgn e.1 = ahead a then e.2 * b2z (looseF a e.1) else 0)
theorem l_sided_top {es : Ent} {a : Way} (p : OkE es) (pa : a = .cu ∨ a = .ha) (po : OneSign es) : LAW K (t_sided_top w K) [some (dE es), some (.int 0), some (.str a.s), none, none, none, none, none, none, none, none, none, none] (.int (topF a es)) := by
  have hah : (if decide (a = .cu) = true then (-1 : Int) else 1) = ahead a := by rcases pa with rfl | rfl <;> rfl
  refine es_seq (es_set (d := .int (ahead a)) (ed_is (ed_iteI (b := decide (a = .cu)) (i := -1) (j := 1) (et_test (ed_inT (ys := lowerL) (ed_var rfl) (ed_wr Z.lower fun H => repl_of_str _) (by cases a <;> decide +kernel))) (fun _ => (ed_U (g := fun i => -i) ed_int)) (fun _ => ed_int)) (by rw [hah])) ?_)
  refine es_seq (es_par3O ed_int (ed_U (g := fun i => -i) (ed_cb (ea_cons (ed_eqI (ed_var rfl) ed_int) ea_nil) rd_intB)) (by decide) (by decide) (by simp) ?_)
  refine es_seq (es_forI es encE (topStep a) 0 (fun i tot δ' ow' => ∃ (room : Int) (costs : List (Int × Int)) (x7 x8 x9 x10 x11 x12 : Option D), costs.length ≤ i ∧ TopI a es room costs ∧ ow' = some (6, .l (costs.map encQ)) ∧ δ' = [some (dE es), some (.int 0), some (.str a.s), some (.int (ahead a)), some (.int tot), some (.int room), none, x7, x8, x9, x10, x11, x12]) (eil_list (ed_var rfl)) ?_ (fun i tot e δ' ow' he p' => ?_) (fun δ' ow' p' => ?_))
  · refine ⟨_, [], _, _, _, _, _, _, Nat.le_refl _, ?_, rfl, rfl⟩
    rcases pa with rfl | rfl
    · rcases po with q | q
      · exact .inl ⟨rfl, q, rfl, fun c hc => by cases hc⟩
      · exact .inr (.inl ⟨.inl ⟨rfl, q⟩, rfl⟩)
    · rcases po with q | q
      · exact .inr (.inl ⟨.inr ⟨rfl, q⟩, rfl⟩)
      · exact .inr (.inr ⟨rfl, q, rfl⟩)
  · obtain ⟨room, costs, x7, x8, x9, x10, x11, x12, hlen, hI, rfl, rfl⟩ := p'
    have hi3 : i < 3 := Nat.lt_of_lt_of_le (List.getElem?_eq_some_iff.mp he).1 p.few
    have hm := List.mem_of_getElem? he
    have sn := p.sm e hm
    have bg := p.big hm
    refine ⟨_, eg_tup (egs_cons eg_name (egs_cons eg_name egs_nil)), ?_⟩
    refine es_seq (es_asg (c_loose_parts a (ea_cons (ed_var rfl) (ea_cons (ed_var rfl) (ea_cons (ed_var rfl) ea_nil))) sn) (eg_tup (egs_cons eg_name (egs_cons eg_name egs_nil))) ?_)
    refine es_seq (es_aug rfl (ed_I (ed_var rfl) (ed_var rfl) (mul_ok bg (unit_small sn))) ?_)
    refine es_if (et_test (ed_eqI (c_Worth_sign (ed_var rfl)) (ed_var rfl))) (fun h => ?_) (fun h => ?_)
    · have h := of_decide_eq_true h
      have bl : ∀ b : Bool, (if b = true then (1 : Int) else 0).natAbs < 2 ^ 10 := by intro b; cases b <;> decide
      have ub : ∀ b : Bool, (if unitF a e.1 + (if b = true then (1 : Int) else 0) < 0 then -(unitF a e.1 + (if b = true then (1 : Int) else 0)) else unitF a e.1 + (if b = true then (1 : Int) else 0)).natAbs < 2 ^ 22 := by
        intro b
        have := unit_small (w := a) sn
        cases b <;> (simp only [Bool.false_eq_true, if_false, if_true]; split <;> omega)
      refine es_seq (es_aug rfl (ed_I (ed_var rfl) (ed_cb (ea_cons (ed_var rfl) ea_nil) rd_intB) (mul_ok bg (bl _))) ?_)
      refine es_aug rfl (ed_I (ed_var rfl) (ed_cb (ea_cons (ed_I0 (ed_var rfl) (ed_cb (ea_cons (ed_var rfl) ea_nil) rd_intB)) ea_nil) rd_abs) (mul_ok bg (ub _))) ?_
      have e1 : topStep a tot e = tot + e.2 * unitF a e.1 + e.2 * (if looseF a e.1 = true then 1 else 0) := by
        unfold topStep
        rw [if_pos h, b2z_ite]
      rw [e1]
      refine ⟨_, costs, _, _, _, _, _, _, by omega, ?_, rfl, rfl⟩
      rcases hI with ⟨q1, q2, q3, q4⟩ | q | ⟨q1, q2, q3⟩
      · subst q1
        have := sgn_eq.2.mp h
        have := q2 e hm
        omega
      · exact .inr (.inl q)
      · subst q1
        have := sgn_eq.1.mp h
        have := q2 e hm
        omega
    · have h := of_decide_eq_false h
      have e1 : topStep a tot e = tot + e.2 * unitF a e.1 := by
        unfold topStep
        rw [if_neg h, Int.add_zero]
      rw [e1]
      refine es_if (et_B (ed_var rfl)) (fun h2 => ?_) (fun h2 => ?_)
      · refine es_app (ed_tup (ea_cons (ed_cb (ea_cons (ed_I0 (ed_var rfl) ed_int) ea_nil) rd_abs) (ea_cons (ed_var rfl) ea_nil)) (by simp)) (by simp; omega) ?_
        refine ⟨room, costs ++ [(if unitF a e.1 + 1 < 0 then -(unitF a e.1 + 1) else unitF a e.1 + 1, e.2)], _, _, _, _, _, _, by simp; omega, ?_, by rw [List.map_append]; rfl, rfl⟩
        rcases hI with ⟨q1, q2, q3, q4⟩ | ⟨q, q5⟩ | ⟨q1, q2, q3⟩
        · refine .inl ⟨q1, q2, q3, fun c hc => ?_⟩
          rcases List.mem_append.mp hc with hc | hc
          · exact q4 c hc
          · rw [List.mem_singleton.mp hc]
            have hu : 0 ≤ unitF a e.1 := by
              unfold unitF
              rw [if_pos h2]
              have h0 := q2 e hm
              unfold wu
              rcases un_pos e.1 with q | q <;> rw [q] <;> split <;> omega
            have su := unit_small (w := a) sn
            have e2 : (if unitF a e.1 + 1 < 0 then -(unitF a e.1 + 1) else unitF a e.1 + 1) = unitF a e.1 + 1 := if_neg (by omega)
            show 1 ≤ (if unitF a e.1 + 1 < 0 then -(unitF a e.1 + 1) else unitF a e.1 + 1) ∧ _ ∧ (if unitF a e.1 + 1 < 0 then -(unitF a e.1 + 1) else unitF a e.1 + 1).natAbs < 2 ^ 22
            rw [e2]
            exact ⟨by omega, p.nn e hm, by omega⟩
        · exfalso
          rcases q with ⟨rfl, q⟩ | ⟨rfl, q⟩
          · have h0 := q e hm
            have : e.1 ≠ 0 := fun z => by rw [z, loose_zero] at h2; cases h2
            exact h (sgn_eq.2.mpr (by omega))
          · have h0 := q e hm
            have : e.1 ≠ 0 := fun z => by rw [z, loose_zero] at h2; cases h2
            exact h (sgn_eq.1.mpr (by omega))
        · exact .inr (.inr ⟨q1, q2, q3⟩)
      · exact es_next ⟨room, costs, _, _, _, _, _, _, by omega, hI, rfl, rfl⟩
  · obtain ⟨room, costs, x7, x8, x9, x10, x11, x12, hlen, hI, rfl, rfl⟩ := p'
    have etop : es.foldl (topStep a) 0 = topF a es := rfl
    rw [etop]
    refine es_seq (es_if (et_test (ed_B0 (ed_var rfl) ed_int)) (fun h => es_ret (ed_var rfl) rfl) (fun h => es_next ?_))
    have h := of_decide_eq_false h
    refine es_freeze ?_
    have hc3 : costs.length ≤ 100 := by have := p.few; omega
    have erow : costs.map encQ = (costs.map fun c => [c.1, c.2]).map rowD := by rw [List.map_map]; rfl
    refine es_seq (es_forL (sortT (costs.map fun c => [c.1, c.2])) rowD (fun b _ => b) () (fun _ δ' ow' => ow' = none ∧ ∃ (room' : Int) (y6 x7 x8 x9 x10 x11 x12 : Option D), (costs = [] ∨ room' = 0) ∧ δ' = [some (dE es), some (.int 0), some (.str a.s), some (.int (ahead a)), some (.int (topF a es)), some (.int room'), y6, x7, x8, x9, x10, x11, x12]) (eil_list (ed_cb (ea_cons (ed_is (ed_var rfl) (by rw [erow])) ea_nil) (rd_sortT (fun b hb => ?_) (by rw [List.length_map]; omega)))) ⟨rfl, room, _, _, _, _, _, _, _, ?_, rfl⟩ (fun b r δ' ow' hr p' => ?_) (fun δ' ow' p' => ?_))
    · obtain ⟨c, _, rfl⟩ := List.mem_map.mp hb
      simp
    · rcases hI with ⟨q1, q2, q3, q4⟩ | ⟨q, q5⟩ | ⟨q1, q2, q3⟩
      · exact .inr q3
      · exact .inl q5
      · omega
    · obtain ⟨rfl, room', y6, x7, x8, x9, x10, x11, x12, h0, rfl⟩ := p'
      have hr2 : r ∈ costs.map fun c => [c.1, c.2] := (List.mergeSort_perm _ _).mem_iff.mp hr
      obtain ⟨c, hc, rfl⟩ := List.mem_map.mp hr2
      have hne : costs ≠ [] := fun z => by rw [z] at hc; cases hc
      have hroom : room' = 0 := h0.resolve_left hne
      subst hroom
      have hgood : 1 ≤ c.1 ∧ 0 ≤ c.2 ∧ c.1.natAbs < 2 ^ 22 := by
        rcases hI with ⟨q1, q2, q3, q4⟩ | ⟨q, q5⟩ | ⟨q1, q2, q3⟩
        · exact q4 c hc
        · exact absurd q5 hne
        · omega
      have m0 : (if decide (c.1 = 0) = true then c.2 else (if (0 : Int) / c.1 < c.2 then 0 / c.1 else c.2)) = 0 := by
        rw [if_neg (by simp; omega), Int.zero_ediv]
        split <;> omega
      refine ⟨_, eg_tup (egs_cons eg_name (egs_cons eg_name egs_nil)), ?_⟩
      refine es_seq (es_set (d := .int 0) (ed_is (ed_iteI (et_test (ed_eqI (ed_var rfl) ed_int)) (fun _ => (ed_var rfl)) (fun _ => (ed_cb (ea_cons (ed_var rfl) (ea_cons (ed_I (ed_var rfl) (ed_var rfl) (divW_ok (by omega) (small_ok hgood.2.2))) ea_nil)) rd_min2))) (by rw [m0])) ?_)
      refine es_par (ea_cons (ed_is (d' := .int (topF a es)) (ed_I0 (ed_var rfl) (ed_var rfl)) (by rw [Int.add_zero])) (ea_cons (ed_is (d' := .int 0) (ed_I0 (ed_var rfl) (ed_I (ed_var rfl) (ed_var rfl) (mul_ok (a := 10) lit_ok hgood.2.2))) (by rw [Int.zero_mul]; rfl)) ea_nil)) ?_
      exact ⟨rfl, 0, _, _, _, _, _, _, _, .inr rfl, rfl⟩
    · obtain ⟨rfl, room', y6, x7, x8, x9, x10, x11, x12, h0, rfl⟩ := p'
      exact es_ret (ed_var rfl) rfl
end
end KX
/-! What the defs compute: order_range, giving. -/
namespace KX
open PySem PySem.Spec PyProof.Rows L2
theorem ediv_abs_pos (a : Int) {b : Int} (h : 0 < b) : (a / b).natAbs ≤ a.natAbs := by
  by_cases ha : 0 ≤ a
  · have h2 := Int.ediv_le_self b ha
    have h3 := Int.ediv_nonneg ha (Int.le_of_lt h)
    omega
  · have h2 : a ≤ a / b := by
      rw [Int.le_ediv_iff_mul_le h]
      have := Int.mul_le_mul_of_nonpos_left (show a ≤ 0 by omega) (show (1 : Int) ≤ b by omega)
      omega
    have h3 : a / b < 1 := by
      rw [Int.ediv_lt_iff_lt_mul h]
      omega
    omega
section
variable {K : PySem.W.Frag} {mg : Str → Option Value} {w : World} (Z : Bas K mg)
include Z
theorem l_order_range {es : Ent} {a : Way} (p : OkE es) (ps : a = .cu ∨ a = .ha → ∀ e ∈ es, 0 ≤ e.1) : LAW K (t_order_range w K) [some (dE es), some (.int 0), some (.str a.s), none, none, none, none] (.tup [.wt (10 * ordLo a es), .wt (10 * ordHi a es)]) := by
  refine es_seq (es_drop (c_need_asked (ea_cons (ed_var rfl) (ea_cons (ed_var rfl) (ea_cons (ed_var rfl) ea_nil))) p) ?_)
  refine es_cut (fun δ' ow' => ow' = none ∧ ∃ x5 x6 : Option D, δ' = [some (dE es), some (.int 0), some (.str a.s), some (.int (ordLo a es)), some (.int (ordHi a es)), x5, x6]) ?_ ?_
  · refine es_if (et_test (ed_eqS (ed_var rfl) ed_str)) (fun h => ?_) (fun h => ?_)
    · have h := of_decide_eq_true h
      have e : a = .he := by cases a <;> first | rfl | (exfalso; revert h; decide)
      subst e
      exact es_asg (c_even_ends (ea_cons (ed_var rfl) (ea_cons (ed_var rfl) ea_nil)) p) (eg_tup (egs_cons eg_name (egs_cons eg_name egs_nil))) ⟨rfl, _, _, rfl⟩
    · have h := of_decide_eq_false h
      refine es_if (b := decide (a = .cu ∨ a = .ha)) (et_test (ed_inT (ys := sidedL) (ed_var rfl) (ed_wr Z.sided fun H => repl_of_str _) (by cases a <;> decide +kernel))) (fun h2 => ?_) (fun h2 => ?_)
      · have h2 := of_decide_eq_true h2
        have hn := ps h2
        refine es_seq (es_set (d := .int (ordLo a es)) (ed_is (ed_U (g := fun i => -i) (c_sided_top (es := negE es) (ea_cons (ed_is (ed_lcA es encE (fun e => encE (-e.1, e.2)) (eil_list (ed_var rfl)) (gw_tup (gws_cons mo_name (gw_name (by simp)) (gws_cons mo_name (gw_name (by simp)) gws_nil))) (fun _ _ => rfl) (by have := p.few; omega) (fun e he => ⟨_, eg_tup (egs_cons eg_name (egs_cons eg_name egs_nil)), ed_tup (ea_cons (ed_negW (ed_var rfl)) (ea_cons (ed_var rfl) ea_nil)) (by simp)⟩)) (by unfold dE negE; rw [List.map_map]; rfl)) (ea_cons (ed_var rfl) (ea_cons (ed_var rfl) ea_nil))) ⟨p.neg, h2, .inr fun e he => ?_⟩)) ?_) ?_)
        · obtain ⟨e', h', rfl⟩ := List.mem_map.mp he
          have := hn e' h'
          show -e'.1 ≤ 0
          omega
        · rcases h2 with rfl | rfl <;> rfl
        · refine es_set (d := .int (ordHi a es)) (ed_is (c_sided_top (ea_cons (ed_var rfl) (ea_cons (ed_var rfl) (ea_cons (ed_var rfl) ea_nil))) ⟨p, h2, .inl hn⟩) (by rcases h2 with rfl | rfl <;> rfl)) ?_
          exact ⟨rfl, _, _, rfl⟩
      · have h2 := of_decide_eq_false h2
        have e1 : runF a es = ordLo a es ∧ runF a es = ordHi a es := by
          cases a
          · exact absurd rfl h
          · exact ⟨rfl, rfl⟩
          · exact ⟨rfl, rfl⟩
          · exact absurd (.inl rfl) h2
          · exact absurd (.inr rfl) h2
        refine es_seq (es_set (d := .int (ordLo a es)) (ed_is (c_running_units (ea_cons (ed_var rfl) (ea_cons (ed_var rfl) (ea_cons (ed_var rfl) ea_nil))) p) (by rw [e1.1])) ?_)
        refine es_set (d := .int (ordHi a es)) (ed_is (ed_var rfl) (by rw [← e1.1, e1.2])) ?_
        exact ⟨rfl, _, _, rfl⟩
  · rintro δ' ow' ⟨rfl, x5, x6, rfl⟩
    exact es_ret (ed_tup (ea_cons (ed_mkW (ea_cons (ed_var rfl) (ea_cons (ed_var rfl) ea_nil)) (.inl rfl)) (ea_cons (ed_mkW (ea_cons (ed_var rfl) (ea_cons (ed_var rfl) ea_nil)) (.inl rfl)) ea_nil)) (by simp)) rfl
theorem l_negated {es : Ent} (p : OkE es) : LAW K (t_negated w K) [some (dE es), none, none] (dE (negE es)) := by
  refine es_ret (ed_lcA es encE (fun e => encE (-e.1, e.2)) (eil_list (ed_var rfl)) (gw_tup (gws_cons mo_name (gw_name (by simp)) (gws_cons mo_name (gw_name (by simp)) gws_nil))) (fun _ _ => rfl) (by have := p.few; omega) (fun e he => ⟨_, eg_tup (egs_cons eg_name (egs_cons eg_name egs_nil)), ed_tup (ea_cons (ed_negW (ed_var rfl)) (ea_cons (ed_var rfl) ea_nil)) (by simp)⟩)) ?_
  unfold dE negE
  rw [List.map_map]
  rfl
theorem he_of {a : Way} (h : decide (a.s = ("halfeven" : Str)) = true) : a = .he := by
  have h := of_decide_eq_true h
  cases a <;> first | rfl | (exfalso; revert h; decide)
theorem he_not {a : Way} (h : decide (a.s = ("halfeven" : Str)) = false) : a ≠ .he := fun e => by
  subst e
  exact absurd rfl (of_decide_eq_false h)
theorem l_need_told_giving {es : Ent} {a : Way} (p : OkE es) (pt : Told a es) : LAW K (t_need_told_giving w K) [some (dE es), some (.int 0), some (.str a.s)] .non := by
  refine es_if (et_and (et_test (ed_neS (ed_var rfl) ed_str)) fun _ => (et_not (et_B (c_free_entries (ea_cons (ed_var rfl) (ea_cons (ed_var rfl) (ea_cons (ed_var rfl) ea_nil))) p)))) (fun h => ?_) (fun h => es_next rfl)
  obtain ⟨h1, h2⟩ := Bool.and_eq_true_iff.mp h
  rcases pt with rfl | q
  · exact absurd h1 (by decide)
  · rw [q] at h2; cases h2
theorem l_need_told_shiftsums {es : Ent} {a : Way} (p : OkE es) (pt : Told a es) : LAW K (t_need_told_shiftsums w K) [some (dE es), some (.int 0), some (.str a.s)] .non := by
  refine es_if (et_and (et_test (ed_neS (ed_var rfl) ed_str)) fun _ => (et_not (et_B (c_free_entries (ea_cons (ed_var rfl) (ea_cons (ed_var rfl) (ea_cons (ed_var rfl) ea_nil))) p)))) (fun h => ?_) (fun h => es_next rfl)
  obtain ⟨h1, h2⟩ := Bool.and_eq_true_iff.mp h
  rcases pt with rfl | q
  · exact absurd h1 (by decide)
  · rw [q] at h2; cases h2
theorem l_odd_houses {od t P : Int} {av : Bool} : LAW K (t_odd_houses w K) [some (.int od), some (.int t), some (.int P), some (.bl av), none] (.int (oddHF od t P av)) := by
  refine es_seq (es_set (ed_cb (ea_cons (ed_var rfl) (ea_cons (ed_I0 (ed_var rfl) (ed_var rfl)) ea_nil)) rd_min2) ?_)
  refine es_seq (es_aug rfl (ed_I (ed_I0 (ed_I0 (ed_var rfl) (ed_var rfl)) (ed_var rfl)) ed_int (by decide)) ?_)
  refine es_ret (ed_iteI (et_and (et_B (ed_var rfl)) fun _ => (et_and (et_test (ed_eqI (ed_var rfl) (ed_var rfl))) fun _ => (et_test (ed_B0 (ed_var rfl) ed_int)))) (fun _ => (ed_I0 (ed_var rfl) ed_int)) (fun _ => (ed_var rfl))) ?_
  unfold oddHF
  congr 1
  dsimp only
  simp only [Bool.and_eq_true, decide_eq_true_eq]
  rfl
theorem l_even_runs {es : Ent} (p : OkE es) : LAW K (t_even_runs w K) [some (dE es), some (.int 0), none, none, none, none, none, none] (.tup [.int (runsF es).1, dR (runsF es).2]) := by
  refine es_seq (es_parO ed_int (by decide) (by simp) ?_)
  refine es_seq (es_forI es encE runStep (0, []) (fun i s δ' ow' => ∃ x4 x5 x6 x7 : Option D, s.2.length ≤ i ∧ ow' = some (3, .l (s.2.map encR)) ∧ δ' = [some (dE es), some (.int 0), some (.int s.1), none, x4, x5, x6, x7]) (eil_list (ed_var rfl)) ⟨_, _, _, _, Nat.le_refl _, rfl, rfl⟩ (fun i s e δ' ow' he p' => ?_) (fun δ' ow' p' => ?_))
  · obtain ⟨x4, x5, x6, x7, hlen, rfl, rfl⟩ := p'
    have hi3 : i < 3 := Nat.lt_of_lt_of_le (List.getElem?_eq_some_iff.mp he).1 p.few
    have hm := List.mem_of_getElem? he
    have sn := p.sm e hm
    have bg := p.big hm
    have su := unit_small (w := .he) sn
    have um : (unitF .he e.1 % 2).natAbs < 2 ^ 10 := by omega
    refine ⟨_, eg_tup (egs_cons eg_name (egs_cons eg_name egs_nil)), ?_⟩
    refine es_seq (es_asg (c_loose_parts .he (ea_cons (ed_var rfl) (ea_cons (ed_var rfl) (ea_cons ed_str ea_nil))) sn) (eg_tup (egs_cons eg_name (egs_cons eg_name egs_nil))) ?_)
    refine es_seq (es_aug rfl (ed_I (ed_var rfl) (ed_var rfl) (mul_ok bg su)) ?_)
    refine es_if (et_and (et_B (ed_var rfl)) fun _ => (et_test (ed_B0 (ed_var rfl) ed_int))) (fun h => ?_) (fun h => ?_)
    · obtain ⟨h1, h2⟩ := Bool.and_eq_true_iff.mp h
      have h2 := of_decide_eq_true h2
      refine es_seq (es_aug rfl (ed_I (ed_var rfl) (ed_I (ed_var rfl) ed_int (by decide)) (mul_ok bg um)) ?_)
      refine es_app (ed_tup (ea_cons (ed_if (d := .str (if unitF .he e.1 % 2 = 1 then Kd.od else Kd.ev).s) (et_test (ed_eqI (ed_I (ed_var rfl) ed_int (by decide)) ed_int)) (fun q => ed_is ed_str (by rw [if_pos (of_decide_eq_true q)]; rfl)) (fun q => ed_is ed_str (by rw [if_neg (of_decide_eq_false q)]; rfl))) (ea_cons (ed_var rfl) ea_nil)) (by simp)) (by simp; omega) ?_
      have e1 : runStep s e = (s.1 + e.2 * unitF .he e.1 + e.2 * (unitF .he e.1 % 2), s.2 ++ [(if unitF .he e.1 % 2 = 1 then Kd.od else Kd.ev, e.2)]) := by
        unfold runStep
        dsimp only
        rw [if_pos ⟨h1, h2⟩]
      rw [e1]
      exact ⟨_, _, _, _, by simp; omega, by rw [List.map_append]; rfl, rfl⟩
    · have hn : ¬ (looseF .he e.1 = true ∧ 0 < e.2) := fun q => by
        rw [q.1, decide_eq_true q.2] at h
        cases h
      refine es_if (et_and (et_test (ed_eqI (ed_I (ed_var rfl) ed_int (by decide)) ed_int)) fun _ => (et_test (ed_B0 (ed_var rfl) ed_int))) (fun h2 => ?_) (fun h2 => ?_)
      · obtain ⟨h3, h4⟩ := Bool.and_eq_true_iff.mp h2
        have h3 := of_decide_eq_true h3
        have h4 := of_decide_eq_true h4
        rcases hl : s.2.getLast? with _ | ⟨k, t⟩
        · have e0 : s.2 = [] := List.getLast?_eq_none_iff.mp hl
          have e1 : runStep s e = (s.1 + e.2 * unitF .he e.1, s.2 ++ [(.tu, e.2)]) := by
            unfold runStep
            dsimp only
            rw [if_neg hn, if_pos ⟨h3, h4⟩, hl]
          rw [e1]
          refine es_if (et_and (b := false) (c := false) (et_is et_truO (by rw [e0]; rfl)) (fun q => by cases q)) (fun q => by cases q) (fun _ => ?_)
          refine es_app (ed_tup (ea_cons ed_str (ea_cons (ed_var rfl) ea_nil)) (by simp)) (by simp; omega) ?_
          exact ⟨_, _, _, _, by simp; omega, by rw [List.map_append]; rfl, rfl⟩
        · have hla : atI (s.2.map encR) (-1) = some (encR (k, t)) := atI_last (by rw [List.getLast?_map, hl]; rfl)
          have hpos : 0 < s.2.length := by
            cases q : s.2
            · rw [q] at hl; cases hl
            · simp
          refine es_if (et_and (et_is (b' := true) et_truO (by cases q : s.2 with | nil => rw [q] at hl; cases hl | cons _ _ => rfl)) fun _ => (et_test (ed_eqS (ed_ixT (ed_ixO (ed_U (g := fun i => -i) ed_int) hla) ed_int rfl) ed_str))) (fun q => ?_) (fun q => ?_)
          · have q : decide (k.s = Kd.tu.s) = true := by
              obtain ⟨_, q⟩ := Bool.and_eq_true_iff.mp q
              exact q
            rw [kd_eq] at q
            have q := of_decide_eq_true q
            subst q
            have e1 : runStep s e = (s.1 + e.2 * unitF .he e.1, s.2.set (s.2.length - 1) (.tu, t + e.2)) := by
              unfold runStep
              dsimp only
              rw [if_neg hn, if_pos ⟨h3, h4⟩, hl]
            rw [e1]
            refine es_setO (ed_tup (ea_cons ed_str (ea_cons (ed_I0 (ed_ixT (ed_ixO (ed_U (g := fun i => -i) ed_int) hla) ed_int rfl) (ed_var rfl)) ea_nil)) (by simp)) (ed_U (g := fun i => -i) ed_int) (ixN_last (by rw [List.length_map]; exact hpos)) ?_
            exact ⟨_, _, _, _, by rw [List.length_set]; omega, by rw [List.map_set, List.length_map]; rfl, rfl⟩
          · have q : decide (k.s = Kd.tu.s) = false := q
            rw [kd_eq] at q
            have q := of_decide_eq_false q
            have e1 : runStep s e = (s.1 + e.2 * unitF .he e.1, s.2 ++ [(.tu, e.2)]) := by
              unfold runStep
              dsimp only
              rw [if_neg hn, if_pos ⟨h3, h4⟩, hl]
              cases k
              · rfl
              · rfl
              · exact absurd rfl q
            rw [e1]
            refine es_app (ed_tup (ea_cons ed_str (ea_cons (ed_var rfl) ea_nil)) (by simp)) (by simp; omega) ?_
            exact ⟨_, _, _, _, by simp; omega, by rw [List.map_append]; rfl, rfl⟩
      · have hn2 : ¬ (unitF .he e.1 % 2 = 1 ∧ 0 < e.2) := fun q => by
          rw [decide_eq_true q.1, decide_eq_true q.2] at h2
          cases h2
        have e1 : runStep s e = (s.1 + e.2 * unitF .he e.1, s.2) := by
          unfold runStep
          dsimp only
          rw [if_neg hn, if_neg hn2]
        rw [e1]
        exact es_next ⟨_, _, _, _, show s.2.length ≤ i + 1 by omega, rfl, rfl⟩
  · obtain ⟨x4, x5, x6, x7, hlen, rfl, rfl⟩ := p'
    refine es_freeze ?_
    exact es_ret (ed_tup (ea_cons (ed_var rfl) (ea_cons (ed_var rfl) ea_nil)) (by simp)) rfl
end
end KX
/-! What the defs compute: best_given, given_range, enough, houses_enough, below. -/
namespace KX
open PySem PySem.Spec PyProof.Rows L2
theorem runs_len (es : Ent) : (runsF es).2.length ≤ es.length := by
  have key : ∀ (es : Ent) (s : Int × List (Kd × Int)), (es.foldl runStep s).2.length ≤ s.2.length + es.length := by
    intro es
    induction es with
    | nil => intro s; exact Nat.le_refl _
    | cons e es ih =>
      intro s
      have h1 := ih (runStep s e)
      have h2 : (runStep s e).2.length ≤ s.2.length + 1 := by
        unfold runStep
        dsimp only
        split
        · simp
        · split
          · split
            · simp
            · simp
          · simp
      rw [List.foldl_cons, List.length_cons]
      omega
  have := key es (0, [])
  rw [List.length_nil, Nat.zero_add] at this
  exact this
section
variable {K : PySem.W.Frag} {mg : Str → Option Value} {w : World} (Z : Bas K mg)
include Z
theorem l_best_given {es : Ent} {P : Int} (p : OkE es) : LAW K (t_best_given w K) [some (dE es), some (.int 0), some (.int P), none, none, none, none, none, none, none, none] (.int (bestF es P)) := by
  refine es_seq (es_asg (c_even_runs (ea_cons (ed_var rfl) (ea_cons (ed_var rfl) ea_nil)) p) (eg_tup (egs_cons eg_name (egs_cons eg_name egs_nil))) ?_)
  refine es_seq (es_set ed_int ?_)
  obtain ⟨rs, ers⟩ : ∃ x, x = (runsF es).2 := ⟨_, rfl⟩
  have hlen : rs.length ≤ 3 := by rw [ers]; exact Nat.le_trans (runs_len es) p.few
  rw [← ers]
  refine es_seq (es_forI rs.zipIdx (fun q => .tup [.int (q.2 : Int), encR q.1]) (fun b _ => b) () (fun i _ δ' ow' => ow' = none ∧ ∃ (tot od : Int) (x6 x7 x8 x9 x10 : Option D), bestGo P (rs.drop i) tot od = bestF es P ∧ δ' = [some (dE es), some (.int 0), some (.int P), some (.int tot), some (dR rs), some (.int od), x6, x7, x8, x9, x10]) (eil_is (eil_enum (ea_cons (ed_var rfl) ea_nil)) ?_) ⟨rfl, (runsF es).1, 0, _, _, _, _, _, ?_, rfl⟩ (fun i b q δ' ow' hq p' => ?_) (fun δ' ow' p' => ?_))
  · rw [List.zipIdx_map, List.map_map]
    rfl
  · rw [List.drop_zero, ers]
    rfl
  · obtain ⟨rfl, tot, od, x6, x7, x8, x9, x10, hb, rfl⟩ := p'
    obtain ⟨hi, hq2⟩ : i < rs.length ∧ q = (rs[i]?.getD (.od, 0), i) := by
      rw [List.getElem?_zipIdx] at hq
      cases z : rs[i]? with
      | none => rw [z] at hq; cases hq
      | some r =>
        rw [z] at hq
        simp only [Option.map_some, Option.some.injEq, Nat.zero_add] at hq
        exact ⟨(List.getElem?_eq_some_iff.mp z).1, by rw [← hq]; rfl⟩
    rw [List.getElem?_eq_getElem hi] at hq2
    obtain ⟨⟨k, t⟩, hr⟩ : ∃ z, z = rs[i] := ⟨_, rfl⟩
    have hr := hr.symm
    rw [hr] at hq2
    have hq2 : q = ((k, t), i) := hq2
    subst hq2
    rw [List.drop_eq_getElem_cons hi, hr] at hb
    have ee : ∀ x : Kd, decide (k.s = x.s) = decide (k = x) := kd_eq k
    refine ⟨_, eg_tup (egs_cons eg_name (egs_cons (eg_tup (egs_cons eg_name (egs_cons eg_name egs_nil))) egs_nil)), ?_⟩
    refine es_if (b := decide (k.s = Kd.tu.s)) (et_test (ed_eqS (ed_var rfl) ed_str)) (fun h => ?_) (fun h => ?_)
    · rw [ee] at h
      have h := of_decide_eq_true h
      subst h
      rcases hn : rs[i + 1]? with _ | ⟨k2, t2⟩
      · have hge : rs.length ≤ i + 1 := List.getElem?_eq_none_iff.mp hn
        have hd : rs.drop (i + 1) = [] := List.drop_of_length_le hge
        rw [hd] at hb
        refine es_seq (es_set (d := .bl false) (ed_is (ed_andV (b := decide ((i : Int) + 1 < (rs.map encR).length)) (c := false) (ed_B0 (ed_I0 (ed_var rfl) ed_int) (ed_cb (ea_cons (ed_var rfl) ea_nil) rd_lenL)) (fun z => ?_)) (by simp)) ?_)
        · have z := of_decide_eq_true z
          rw [List.length_map] at z
          omega
        · refine es_set (c_odd_houses (ea_cons (ed_var rfl) (ea_cons (ed_var rfl) (ea_cons (ed_var rfl) (ea_cons (ed_var rfl) ea_nil))))) ?_
          refine ⟨rfl, tot, oddHF od t P false, _, _, _, _, _, ?_, rfl⟩
          rw [hd]
          exact hb
      · have hlt : i + 1 < rs.length := (List.getElem?_eq_some_iff.mp hn).1
        have hd : rs.drop (i + 1) = (k2, t2) :: rs.drop (i + 2) := by
          rw [List.drop_eq_getElem_cons hlt]
          congr 1
          exact Option.some.inj (by rw [← List.getElem?_eq_getElem hlt]; exact hn)
        rw [hd] at hb
        have hat : atI (rs.map encR) ((i : Int) + 1) = some (encR (k2, t2)) := by
          have := atI_nat (xs := rs.map encR) (j := i + 1) (v := encR (k2, t2)) (by rw [List.getElem?_map, hn]; rfl)
          rw [Int.natCast_add] at this
          exact this
        refine es_seq (es_set (d := .bl (decide (k2 = .od))) (ed_is (ed_andV (ed_B0 (ed_I0 (ed_var rfl) ed_int) (ed_cb (ea_cons (ed_var rfl) ea_nil) rd_lenL)) (fun z => ed_eqS (ed_ixT (ed_ixL (ed_var rfl) (ed_I0 (ed_var rfl) ed_int) hat) ed_int rfl) ed_str)) ?_) ?_)
        · have e1 : decide (k2.s = Kd.od.s) = decide (k2 = .od) := kd_eq k2 .od
          have e2 : decide ((i : Int) + 1 < ((rs.map encR).length : Nat)) = true := decide_eq_true (by rw [List.length_map]; omega)
          show D.bl (decide ((i : Int) + 1 < ((rs.map encR).length : Nat)) && decide (k2.s = Kd.od.s)) = _
          rw [e1, e2]
          rfl
        · refine es_set (c_odd_houses (ea_cons (ed_var rfl) (ea_cons (ed_var rfl) (ea_cons (ed_var rfl) (ea_cons (ed_var rfl) ea_nil))))) ?_
          refine ⟨rfl, tot, oddHF od t P (decide (k2 = .od)), _, _, _, _, _, ?_, rfl⟩
          rw [hd]
          have e3 : bestGo P ((Kd.tu, t) :: (k2, t2) :: rs.drop (i + 2)) tot od = bestGo P ((k2, t2) :: rs.drop (i + 2)) tot (oddHF od t P (decide (k2 = .od))) := by
            cases k2 <;> rfl
          rw [← e3]
          exact hb
    · rw [ee] at h
      have h := of_decide_eq_false h
      refine es_if (b := decide (k.s = Kd.ev.s)) (et_test (ed_eqS (ed_var rfl) ed_str)) (fun h2 => ?_) (fun h2 => ?_)
      · rw [ee] at h2
        have h2 := of_decide_eq_true h2
        subst h2
        refine es_seq (es_set (ed_cb (ea_cons (ed_var rfl) (ea_cons (ed_var rfl) ea_nil)) rd_min2) ?_)
        refine es_par (ea_cons (ed_I0 (ed_var rfl) (ed_var rfl)) (ea_cons (ed_I0 (ed_var rfl) (ed_var rfl)) ea_nil)) ?_
        exact ⟨rfl, tot + mn od t, od - mn od t, _, _, _, _, _, hb, rfl⟩
      · rw [ee] at h2
        have h2 := of_decide_eq_false h2
        have hk : k = .od := by cases k <;> first | rfl | exact absurd rfl h | exact absurd rfl h2
        subst hk
        refine es_if (et_and (et_test (ed_eqI (ed_var rfl) ed_int)) fun _ => (et_test (ed_eqI (ed_var rfl) ed_int))) (fun h3 => ?_) (fun h3 => ?_)
        · obtain ⟨h4, h5⟩ := Bool.and_eq_true_iff.mp h3
          have h4 := of_decide_eq_true h4
          have h5 := of_decide_eq_true h5
          refine es_par (ea_cons (ed_I0 (ed_var rfl) ed_int) (ea_cons ed_int ea_nil)) ?_
          refine ⟨rfl, tot - 1, 0, _, _, _, _, _, ?_, rfl⟩
          unfold bestGo at hb
          dsimp only at hb
          rw [if_pos ⟨h4, h5⟩] at hb
          exact hb
        · refine es_next ⟨rfl, tot, od, _, _, _, _, _, ?_, rfl⟩
          have hn : ¬ (P = 1 ∧ od = 1) := fun z => by
            rw [decide_eq_true z.1, decide_eq_true z.2] at h3
            cases h3
          unfold bestGo at hb
          dsimp only at hb
          rw [if_neg hn] at hb
          exact hb
  · obtain ⟨rfl, tot, od, x6, x7, x8, x9, x10, hb, rfl⟩ := p'
    have hd : rs.drop rs.zipIdx.length = [] := List.drop_of_length_le (by rw [List.length_zipIdx]; exact Nat.le_refl _)
    rw [hd] at hb
    have hb : tot = bestF es P := hb
    refine es_ret (ed_var rfl) ?_
    rw [hb]
theorem l_given_range {es : Ent} {a : Way} {P : Int} (p : OkE es) (pt : Told a es) (pP : 0 < P) : LAW K (t_given_range w K) [some (dE es), some (.int 0), some (.str a.s), some (.int P), none, none] (.tup [.wt (10 * givLo a es P), .wt (10 * givHi a es P)]) := by
  refine es_seq (es_drop (c_need_asked (ea_cons (ed_var rfl) (ea_cons (ed_var rfl) (ea_cons (ed_var rfl) ea_nil))) p) ?_)
  refine es_seq (es_drop (c_need_positive (ea_cons (ed_var rfl) ea_nil) pP) ?_)
  refine es_seq (es_drop (c_need_told_giving (ea_cons (ed_var rfl) (ea_cons (ed_var rfl) (ea_cons (ed_var rfl) ea_nil))) ⟨p, pt⟩) ?_)
  refine es_cut (fun δ' ow' => ow' = none ∧ δ' = [some (dE es), some (.int 0), some (.str a.s), some (.int P), some (.int (givLo a es P)), some (.int (givHi a es P))]) ?_ ?_
  · refine es_if (et_test (ed_eqS (ed_var rfl) ed_str)) (fun h => ?_) (fun h => ?_)
    · have e := he_of Z h
      subst e
      exact es_par (ea_cons (ed_U (g := fun i => -i) (c_best_given (ea_cons (c_negated (ea_cons (ed_var rfl) ea_nil) p) (ea_cons (ed_var rfl) (ea_cons (ed_var rfl) ea_nil))) p.neg)) (ea_cons (c_best_given (ea_cons (ed_var rfl) (ea_cons (ed_var rfl) (ea_cons (ed_var rfl) ea_nil))) p) ea_nil)) ⟨rfl, rfl⟩
    · have hne := he_not Z h
      have e1 : runF a es = givLo a es P ∧ runF a es = givHi a es P := by
        cases a
        · exact absurd rfl hne
        · exact ⟨rfl, rfl⟩
        · exact ⟨rfl, rfl⟩
        · exact ⟨rfl, rfl⟩
        · exact ⟨rfl, rfl⟩
      refine es_seq (es_set (d := .int (givLo a es P)) (ed_is (c_running_units (ea_cons (ed_var rfl) (ea_cons (ed_var rfl) (ea_cons (ed_var rfl) ea_nil))) p) (by rw [e1.1])) ?_)
      exact es_set (d := .int (givHi a es P)) (ed_is (ed_var rfl) (by rw [← e1.1, e1.2])) ⟨rfl, rfl⟩
  · rintro δ' ow' ⟨rfl, rfl⟩
    exact es_ret (ed_tup (ea_cons (ed_mkW (ea_cons (ed_var rfl) (ea_cons (ed_var rfl) ea_nil)) (.inl rfl)) (ea_cons (ed_mkW (ea_cons (ed_var rfl) (ea_cons (ed_var rfl) ea_nil)) (.inl rfl)) ea_nil)) (by simp)) rfl
theorem topP_pos {es : Ent} (p : OkE es) : 2 ≤ topP es := by
  unfold topP
  have : ∀ l : List Int, (∀ x ∈ l, 0 ≤ x) → 0 ≤ l.sum := by
    intro l
    induction l with
    | nil => intro _; exact Int.le_refl _
    | cons z l ih =>
      intro q
      rw [List.sum_cons]
      have := q z List.mem_cons_self
      have := ih fun x hx => q x (List.mem_cons_of_mem _ hx)
      omega
  have := this (es.map (·.2)) fun x hx => by
    obtain ⟨e, he, rfl⟩ := List.mem_map.mp hx
    exact p.nn e he
  omega
theorem l_enough {es : Ent} (p : OkE es) : LAW K (t_enough w K) [some (dE es), some (.int 0), none, none, none, none, none, none] (.int (enoF es)) := by
  refine es_seq (es_par (ea_cons ed_int (ea_cons (ed_I0 ed_int (ed_cb (ea_cons (ed_is (d' := .lst ((es.map (·.2)).map D.int)) (ed_lcA es encE (fun e => .int e.2) (eil_list (ed_var rfl)) (gw_tup (gws_cons mo_name (gw_name (by simp)) (gws_cons mo_name (gw_name (by simp)) gws_nil))) (fun _ _ => rfl) (by have := p.few; omega) (fun e he => ⟨_, eg_tup (egs_cons eg_name (egs_cons eg_name egs_nil)), ed_cb (ea_cons (ed_var rfl) ea_nil) rd_int⟩)) (by rw [List.map_map]; rfl)) ea_nil) rd_sum)) ea_nil)) ?_)
  refine es_seq (es_set (c_best_given (ea_cons (ed_var rfl) (ea_cons (ed_var rfl) (ea_cons (ed_var rfl) ea_nil))) p) ?_)
  obtain ⟨q, eq⟩ : ∃ q : Int → Bool, q = fun m => decide (bestF es m = bestF es (topP es)) := ⟨_, rfl⟩
  have h0 : bsF q (topP es - 1).toNat 1 (topP es) = enoF es := by rw [eq]; rfl
  have ht := topP_pos Z p
  refine es_seq (es_while (fun m δ' ow' => ow' = none ∧ ∃ (lo hi : Int) (x5 x6 x7 : Option D), m = (hi - lo).toNat ∧ lo ≤ hi ∧ bsF q (hi - lo).toNat lo hi = enoF es ∧ δ' = [some (dE es), some (.int 0), some (.int lo), some (.int hi), some (.int (bestF es (topP es))), x5, x6, x7]) (topP es - 1).toNat ⟨rfl, 1, topP es, _, _, _, rfl, by omega, h0, rfl⟩ ?_)
  rintro m δ' ow' ⟨rfl, lo, hi, x5, x6, x7, hm, hle, hb, rfl⟩
  refine ⟨_, et_test (ed_B0 (ed_var rfl) (ed_var rfl)), fun h => ?_, fun h => ?_⟩
  · have h := of_decide_eq_true h
    rw [bs_step q h] at hb
    refine es_seq (es_set (ed_I (ed_I0 (ed_var rfl) (ed_var rfl)) ed_int (divW_ok (by decide) lit_ok)) ?_)
    have m1 : lo ≤ (lo + hi) / 2 ∧ (lo + hi) / 2 < hi := by omega
    refine es_if (et_test (ed_eqI (c_best_given (ea_cons (ed_var rfl) (ea_cons (ed_var rfl) (ea_cons (ed_var rfl) ea_nil))) p) (ed_var rfl))) (fun h2 => ?_) (fun h2 => ?_)
    · have e : q ((lo + hi) / 2) = true := by rw [eq]; exact h2
      rw [if_pos e] at hb
      refine es_set (ed_var rfl) ?_
      exact ⟨((lo + hi) / 2 - lo).toNat, by omega, rfl, lo, (lo + hi) / 2, _, _, _, rfl, by omega, hb, rfl⟩
    · have e : q ((lo + hi) / 2) = false := by rw [eq]; exact h2
      rw [if_neg (by rw [e]; decide)] at hb
      refine es_set (ed_I0 (ed_var rfl) ed_int) ?_
      exact ⟨(hi - ((lo + hi) / 2 + 1)).toNat, by omega, rfl, (lo + hi) / 2 + 1, hi, _, _, _, rfl, by omega, hb, rfl⟩
  · have h := of_decide_eq_false h
    have e : (hi - lo).toNat = 0 := by omega
    rw [e] at hb
    have hb : lo = enoF es := hb
    refine es_ret (ed_var rfl) ?_
    rw [hb]
theorem l_houses_enough {es : Ent} {a : Way} (p : OkE es) (pt : Told a es) : LAW K (t_houses_enough w K) [some (dE es), some (.int 0), some (.str a.s)] (.tup [.int (if a = .he then enoF (negE es) else 1), .int (if a = .he then enoF es else 1)]) := by
  refine es_seq (es_drop (c_need_asked (ea_cons (ed_var rfl) (ea_cons (ed_var rfl) (ea_cons (ed_var rfl) ea_nil))) p) ?_)
  refine es_seq (es_drop (c_need_told_giving (ea_cons (ed_var rfl) (ea_cons (ed_var rfl) (ea_cons (ed_var rfl) ea_nil))) ⟨p, pt⟩) ?_)
  refine es_seq (es_if (et_test (ed_neS (ed_var rfl) ed_str)) (fun h => ?_) (fun h => es_next ?_))
  · have hne : a ≠ .he := fun e => by subst e; exact absurd h (by decide)
    rw [if_neg hne, if_neg hne]
    exact es_ret (ed_tup (ea_cons ed_int (ea_cons ed_int ea_nil)) (by simp)) rfl
  · have e : a = .he := by cases a <;> first | rfl | (exfalso; revert h; decide)
    rw [if_pos e, if_pos e]
    exact es_ret (ed_tup (ea_cons (c_enough (ea_cons (c_negated (ea_cons (ed_var rfl) ea_nil) p) (ea_cons (ed_var rfl) ea_nil)) p.neg) (ea_cons (c_enough (ea_cons (ed_var rfl) (ea_cons (ed_var rfl) ea_nil)) p) ea_nil)) (by simp)) rfl
theorem l_below {x l b : Int} (p : 0 < x ∧ x < 2 ^ 2000 ∧ l.natAbs < 2 ^ 2000 ∧ b.natAbs < 2 ^ 2000) : LAW K (t_below w K) [some (.int x), some (.int l), some (.int b)] (.int (belowF x l b)) := by
  have hq : (b / x).natAbs < 2 ^ 2000 := Nat.lt_of_le_of_lt (ediv_abs_pos b p.1) p.2.2.2
  have hx : x.natAbs < 2 ^ 2000 := nat_lt_of (Int.le_of_lt p.1) p.2.1
  refine es_ret (ed_I0 (ed_I (ed_var rfl) (ed_I (ed_var rfl) (ed_var rfl) (divW_ok p.1 (small_ok hx))) (mul_ok p.2.2.1 hq)) (ed_cb (ea_cons (ed_I (ed_cb (ea_cons (ed_var rfl) ea_nil) rd_int) (ed_var rfl) p.1) (ea_cons (ed_cb (ea_cons (ed_var rfl) ea_nil) rd_int) ea_nil)) rd_min2)) ?_
  rfl
end
end KX
/-! What the defs compute: runs, borders, counts, stretches. -/
namespace KX
open PySem PySem.Spec PyProof.Rows L2
/-! ### plain bounds -/
theorem sum_nn : ∀ {l : List Int}, (∀ x ∈ l, 0 ≤ x) → 0 ≤ l.sum
  | [], _ => Int.le_refl _
  | z :: l, q => by
    rw [List.sum_cons]
    have := q z List.mem_cons_self
    have := sum_nn fun x hx => q x (List.mem_cons_of_mem _ hx)
    omega
/-- merging runs: what holds of what is found so far -/
structure FormI (P : Int → Prop) (es : Ent) (s : Ent) : Prop where
  len : s.length ≤ es.length
  nn : ∀ e ∈ s, 0 < e.2
  sm : ∀ e ∈ s, P e.1
  tot : (s.map (·.2)).sum ≤ (es.map (·.2)).sum
theorem sum_set_last (s : Ent) (n t x : Int) (h : s.getLast? = some (n, t)) : ((s.set (s.length - 1) (n, t + x)).map (·.2)).sum = (s.map (·.2)).sum + x ∧ ∀ e ∈ s.set (s.length - 1) (n, t + x), e ∈ s ∨ e = (n, t + x) := by
  obtain ⟨r, hr⟩ : ∃ r, s = r ++ [(n, t)] := List.getLast?_eq_some_iff.mp h
  subst hr
  have e : (r ++ [(n, t)]).set ((r ++ [(n, t)]).length - 1) (n, t + x) = r ++ [(n, t + x)] := by
    rw [List.length_append, List.length_singleton, Nat.add_sub_cancel, List.set_append_right _ _ (Nat.le_refl _), Nat.sub_self]
    rfl
  rw [e]
  constructor
  · rw [List.map_append, List.map_append, List.sum_append, List.sum_append]
    show _ + (t + x + 0) = _ + (t + 0) + x
    omega
  · intro e' h'
    rcases List.mem_append.mp h' with q | q
    · exact .inl (List.mem_append_left _ q)
    · exact .inr (List.mem_singleton.mp q)
theorem form_inv (P : Int → Prop) : ∀ (es : Ent) (s : Ent) (pre : Ent), (∀ e ∈ es, 0 ≤ e.2 ∧ P e.1) → FormI P pre s → FormI P (pre ++ es) (es.foldl formStep s)
  | [], s, pre, _, h => by rw [List.append_nil]; exact h
  | e :: es, s, pre, hp, h => by
    have h0 := hp e List.mem_cons_self
    have step : FormI P (pre ++ [e]) (formStep s e) := by
      have hsum : ((pre ++ [e]).map (·.2)).sum = (pre.map (·.2)).sum + e.2 := by rw [List.map_append, List.sum_append]; simp
      have hl := h.len
      have ht := h.tot
      unfold formStep
      split
      · rename_i hpos
        have app : FormI P (pre ++ [e]) (s ++ [e]) := by
          refine ⟨by simp; omega, fun x hx => ?_, fun x hx => ?_, ?_⟩
          · rcases List.mem_append.mp hx with q | q
            · exact h.nn x q
            · rw [List.mem_singleton.mp q]; exact hpos
          · rcases List.mem_append.mp hx with q | q
            · exact h.sm x q
            · rw [List.mem_singleton.mp q]; exact h0.2
          · rw [hsum, List.map_append, List.sum_append]
            simp
            omega
        split
        · rename_i n t hg
          split
          · rename_i hn
            subst hn
            obtain ⟨q1, q2⟩ := sum_set_last s e.1 t e.2 hg
            have ht0 : 0 < t := h.nn (e.1, t) (List.mem_of_getLast? hg)
            refine ⟨by rw [List.length_set]; simp; omega, fun x hx => ?_, fun x hx => ?_, ?_⟩
            · rcases q2 x hx with q | q
              · exact h.nn x q
              · rw [q]; show 0 < t + e.2; omega
            · rcases q2 x hx with q | q
              · exact h.sm x q
              · rw [q]; exact h0.2
            · rw [q1, hsum]; omega
          · exact app
        · exact app
      · refine ⟨by simp; omega, h.nn, h.sm, ?_⟩
        rw [hsum]
        omega
    have := form_inv P es (formStep s e) (pre ++ [e]) (fun x hx => hp x (List.mem_cons_of_mem _ hx)) step
    rw [List.append_assoc] at this
    exact this
theorem form_all {P : Int → Prop} {es : Ent} (h : ∀ e ∈ es, 0 ≤ e.2 ∧ P e.1) : FormI P es (formF es) := by
  have := form_inv P es [] [] h ⟨Nat.le_refl _, (fun e he => nomatch he), (fun e he => nomatch he), Int.le_refl _⟩
  rw [List.nil_append] at this
  exact this
theorem OkE.form {es : Ent} (p : OkE es) : OkE (formF es) := by
  have h := form_all (P := fun n => n.natAbs < 2 ^ 20) fun e he => ⟨p.nn e he, p.sm e he⟩
  exact ⟨Nat.le_trans h.len p.few, fun e he => Int.le_of_lt (h.nn e he), h.sm, Int.lt_of_le_of_lt h.tot p.tot⟩
/-- borders -/
theorem bord_inv : ∀ (ts : List Int) (s : List Int) (m : Int), (∀ t ∈ ts, 0 ≤ t) → s ≠ [] → s.getLast?.getD 0 = m → (∀ x ∈ s, 0 ≤ x ∧ x ≤ m) →
    (ts.foldl (fun s t => s ++ [s.getLast?.getD 0 + t]) s).length = s.length + ts.length ∧ ∀ x ∈ ts.foldl (fun s t => s ++ [s.getLast?.getD 0 + t]) s, 0 ≤ x ∧ x ≤ m + ts.sum
  | [], s, m, _, _, hm, h => ⟨rfl, fun x hx => by have := h x hx; simp; omega⟩
  | t :: ts, s, m, hp, hs, hm, h => by
    have ht := hp t List.mem_cons_self
    have hm0 : 0 ≤ m := by
      cases s with
      | nil => exact absurd rfl hs
      | cons y s => have := h y List.mem_cons_self; omega
    have ih := bord_inv ts (s ++ [s.getLast?.getD 0 + t]) (m + t) (fun x hx => hp x (List.mem_cons_of_mem _ hx)) (by simp) (by rw [List.getLast?_append, hm]; rfl) fun x hx => by
      rcases List.mem_append.mp hx with q | q
      · have := h x q; omega
      · rw [List.mem_singleton.mp q, hm]; omega
    rw [List.foldl_cons]
    refine ⟨by rw [ih.1]; simp; omega, fun x hx => ?_⟩
    have := ih.2 x hx
    rw [List.sum_cons]
    omega
theorem bord_ok {ts : List Int} (h : ∀ t ∈ ts, 0 ≤ t) : (bordF ts).length = ts.length + 1 ∧ ∀ x ∈ bordF ts, 0 ≤ x ∧ x ≤ ts.sum := by
  have := bord_inv ts [0] 0 h (by simp) rfl (fun x hx => by rw [List.mem_singleton.mp hx]; omega)
  refine ⟨by rw [bordF, this.1]; simp; omega, fun x hx => ?_⟩
  have := this.2 x hx
  omega
theorem OkE.bord {es : Ent} (p : OkE es) : OkB (bordE es) := by
  have h := bord_ok (ts := es.map (·.2)) fun t ht => by
    obtain ⟨e, he, rfl⟩ := List.mem_map.mp ht
    exact p.nn e he
  refine ⟨?_, fun x hx => ?_⟩
  · have := p.few
    unfold bordE
    rw [h.1, List.length_map]
    omega
  · have := h.2 x hx
    have := p.tot
    omega
theorem bordE_len {es : Ent} (p : OkE es) : (bordE es).length = es.length + 1 := by
  have h := bord_ok (ts := es.map (·.2)) fun t ht => by
    obtain ⟨e, he, rfl⟩ := List.mem_map.mp ht
    exact p.nn e he
  unfold bordE
  rw [h.1, List.length_map]
theorem OkE.prt {es : Ent} (w : Way) (p : OkE es) : OkP (prtE w es) := by
  refine ⟨by unfold prtE; rw [List.length_map]; exact p.few, fun q hq => ?_⟩
  obtain ⟨e, he, rfl⟩ := List.mem_map.mp hq
  exact unit_small (p.sm e he)
theorem prt_sd {es : Ent} {w : Way} : ∀ p ∈ prtE w es, p.1 = true → Sd w := fun q hq h => by
  obtain ⟨e, he, rfl⟩ := List.mem_map.mp hq
  exact loose_sd h
theorem OkE.preD {es : Ent} (w : Way) (p : OkE es) : KX.preD (bordE es) (prtE w es) w := ⟨p.bord, p.prt w, by rw [bordE_len p]; unfold prtE; rw [List.length_map], prt_sd⟩
section
variable {K : PySem.W.Frag} {mg : Str → Option Value} {w : World} (Z : Bas K mg)
include Z
theorem ab {x : Int} {n : Nat} (h0 : 0 ≤ x) (h : x < 2 ^ n) : x.natAbs < 2 ^ n := nat_lt_of h0 h
theorem OkD.bn {b P a : Int} (p : OkD b P a) : b.natAbs < 2 ^ 400 ∧ P.natAbs < 2 ^ 400 ∧ (b * P).natAbs < 2 ^ 800 ∧ a.natAbs < 2 ^ 800 ∧ 0 < b * P := by
  have h1 := ab Z (Int.le_of_lt p.b0) p.bs
  have h2 := ab Z (Int.le_of_lt p.P0) p.Ps
  have h3 : (b * P).natAbs < 2 ^ 800 := wide_lt h1 h2
  have h4 := Int.mul_pos p.b0 p.P0
  have h5 := p.a0
  have h6 := p.a1
  exact ⟨h1, h2, h3, by omega, h4⟩
theorem l_Deal_turn {b P a : Int} (p : OkD b P a) : LAW K (t_Deal_turn w K) [some (.deal b P a)] (.int (b * P)) := by
  have h := OkD.bn Z p
  exact es_ret (ed_I (ed_block Z.clD (Z.noat "Deal" "block") (ed_var rfl)) (ed_houses Z.clD (Z.noat "Deal" "houses") (ed_var rfl)) (mul_ok h.1 h.2.1)) rfl
theorem l_need_deal {b P a : Int} : LAW K (t_need_deal w K) [some (.deal b P a)] .non := by
  refine es_if (et_not (et_B (b := true) (ed_cb (ea_cons (ed_var rfl) (ea_cons ed_adr ea_nil)) (rd_isiC Z.isW Z.isD rfl Z.isD.self)))) (fun h => ?_) (fun h => es_next rfl)
  cases h
theorem l_form_of {es : Ent} (p : OkE es) : LAW K (t_form_of w K) [some (dE es), none, none, none] (dE (formF es)) := by
  refine es_seq (es_own (by simp) ?_)
  refine es_seq (es_forI es encE formStep [] (fun i s δ' ow' => ∃ x2 x3 : Option D, s.length ≤ i ∧ ow' = some (1, .l (s.map encE)) ∧ δ' = [some (dE es), none, x2, x3]) (eil_list (ed_var rfl)) ⟨_, _, Nat.le_refl _, rfl, rfl⟩ (fun i s e δ' ow' he p' => ?_) (fun δ' ow' p' => ?_))
  · obtain ⟨x2, x3, hlen, rfl, rfl⟩ := p'
    have hi3 : i < 3 := Nat.lt_of_lt_of_le (List.getElem?_eq_some_iff.mp he).1 p.few
    refine ⟨_, eg_tup (egs_cons eg_name (egs_cons eg_name egs_nil)), ?_⟩
    have two : ∀ (δ'' : KX.Env), δ'' = [some (dE es), none, some (.wt e.1), some (.int e.2)] → (0 < e.2 → formStep s e = s ++ [e]) → (¬ 0 < e.2 → formStep s e = s) →
        ES K (tIfS (tTest (tOp rGt (tVar 3) (tC (.int 0)))) (tDrop (tBM K "list" rAppend (tVar 1) (tCons (tTup (tCons (tVar 2) (tCons (tVar 3) tNil))) tNil))) tNext) δ'' (some (1, .l (s.map encE)))
          (fun δ' ow' => ∃ x2 x3 : Option D, (formStep s e).length ≤ i + 1 ∧ ow' = some (1, .l ((formStep s e).map encE)) ∧ δ' = [some (dE es), none, x2, x3]) (fun x => x = dE (formF es)) := by
      rintro δ'' rfl h1 h2
      refine es_if (et_test (ed_B0 (ed_var rfl) ed_int)) (fun h => ?_) (fun h => ?_)
      · refine es_app (ed_tup (ea_cons (ed_var rfl) (ea_cons (ed_var rfl) ea_nil)) (by simp)) (by simp; omega) ?_
        rw [h1 (of_decide_eq_true h)]
        exact ⟨_, _, by simp; omega, by rw [List.map_append]; rfl, rfl⟩
      · rw [h2 (of_decide_eq_false h)]
        exact es_next ⟨_, _, by omega, rfl, rfl⟩
    rcases hl : s.getLast? with _ | ⟨n, t⟩
    · have e0 : s = [] := List.getLast?_eq_none_iff.mp hl
      refine es_if (b := false) (et_is (et_and (et_test (ed_B0 (ed_var rfl) ed_int)) fun _ => (et_and (b := false) (c := false) (et_is et_truO (by rw [e0]; rfl)) (fun q => by cases q))) (by simp)) (fun q => by cases q) (fun _ => ?_)
      refine two _ rfl (fun h => ?_) (fun h => ?_)
      · unfold formStep
        rw [if_pos h, hl]
      · unfold formStep
        rw [if_neg h]
    · have hla : atI (s.map encE) (-1) = some (encE (n, t)) := atI_last (by rw [List.getLast?_map, hl]; rfl)
      have hpos : 0 < s.length := by
        cases q : s
        · rw [q] at hl; cases hl
        · simp
      refine es_if (et_and (et_test (ed_B0 (ed_var rfl) ed_int)) fun _ => (et_and (et_is (b' := true) et_truO (by cases q : s with | nil => rw [q] at hl; cases hl | cons _ _ => rfl)) fun _ => (et_test (ed_eqW (ed_ixT (ed_ixO (ed_U (g := fun i => -i) ed_int) hla) ed_int rfl) (ed_var rfl))))) (fun h => ?_) (fun h => ?_)
      · obtain ⟨h1, h2⟩ := Bool.and_eq_true_iff.mp h
        obtain ⟨_, h3⟩ := Bool.and_eq_true_iff.mp h2
        have h1 := of_decide_eq_true h1
        have h3 : n = e.1 := of_decide_eq_true h3
        refine es_setO (ed_tup (ea_cons (ed_var rfl) (ea_cons (ed_I0 (ed_ixT (ed_ixO (ed_U (g := fun i => -i) ed_int) hla) ed_int rfl) (ed_var rfl)) ea_nil)) (by simp)) (ed_U (g := fun i => -i) ed_int) (ixN_last (by rw [List.length_map]; exact hpos)) ?_
        have e1 : formStep s e = s.set (s.length - 1) (e.1, t + e.2) := by
          unfold formStep
          rw [if_pos h1, hl]
          dsimp only
          rw [if_pos h3]
        rw [e1]
        exact ⟨_, _, by rw [List.length_set]; omega, by rw [List.map_set, List.length_map], rfl⟩
      · refine two _ rfl (fun h1 => ?_) (fun h1 => ?_)
        · have h3 : ¬ n = e.1 := fun z => by
            rw [decide_eq_true h1] at h
            rw [show decide (n = e.1) = true from decide_eq_true z] at h
            cases h
          unfold formStep
          rw [if_pos h1, hl]
          dsimp only
          rw [if_neg h3]
        · unfold formStep
          rw [if_neg h1]
  · obtain ⟨x2, x3, hlen, rfl, rfl⟩ := p'
    refine es_freeze ?_
    exact es_ret (ed_var rfl) rfl
theorem l_runs_of {es : Ent} (p : OkE es) : LAW K (t_runs_of w K) [some (dE es)] (dE (formF es)) := by
  refine es_seq (es_drop (c_need_entries (ea_cons (ed_var rfl) ea_nil) p) ?_)
  exact es_ret (c_form_of (ea_cons (ed_var rfl) ea_nil) p) rfl
theorem l_borders_of {es : Ent} (p : OkE es) : LAW K (t_borders_of w K) [some (dE es), none, none, none] (dZ (bordE es)) := by
  refine es_seq (es_ownA (ea_cons ed_int ea_nil) (by simp) (by simp) ?_)
  refine es_seq (es_forI es encE (fun (s : List Int) (e : Int × Int) => s ++ [s.getLast?.getD 0 + e.2]) [0] (fun i s δ' ow' => ∃ x2 x3 : Option D, s.length ≤ i + 1 ∧ s ≠ [] ∧ ow' = some (1, .l (s.map D.int)) ∧ δ' = [some (dE es), none, x2, x3]) (eil_list (ed_var rfl)) ⟨_, _, Nat.le_refl _, by simp, rfl, rfl⟩ (fun i s e δ' ow' he p' => ?_) (fun δ' ow' p' => ?_))
  · obtain ⟨x2, x3, hlen, hne, rfl, rfl⟩ := p'
    have hi3 : i < 3 := Nat.lt_of_lt_of_le (List.getElem?_eq_some_iff.mp he).1 p.few
    refine ⟨_, eg_tup (egs_cons eg_name (egs_cons eg_name egs_nil)), ?_⟩
    have hla : atI (s.map D.int) (-1) = some (.int (s.getLast?.getD 0)) := atI_last (by
      rw [List.getLast?_map]
      cases q : s.getLast? with
      | none => exact absurd (List.getLast?_eq_none_iff.mp q) hne
      | some z => rfl)
    refine es_app (ed_I0 (ed_ixO (ed_U (g := fun i => -i) ed_int) hla) (ed_var rfl)) (by simp; omega) ?_
    exact ⟨_, _, by simp; omega, by simp, by rw [List.map_append]; rfl, rfl⟩
  · obtain ⟨x2, x3, hlen, hne, rfl, rfl⟩ := p'
    refine es_freeze ?_
    refine es_ret (ed_var rfl) ?_
    unfold bordE bordF
    rw [List.foldl_map]
theorem l_parts_of {es : Ent} {a : Way} (p : OkE es) : LAW K (t_parts_of w K) [some (dE es), some (.int 0), some (.str a.s), none, none] (dP (prtE a es)) := by
  refine es_ret (ed_lcA es encE (fun e => encP (prt a e.1)) (eil_list (ed_var rfl)) (gw_tup (gws_cons mo_name (gw_name (by simp)) (gws_cons mo_name (gw_name (by simp)) gws_nil))) (fun _ _ => rfl) (by have := p.few; omega) (fun e he => ⟨_, eg_tup (egs_cons eg_name (egs_cons eg_name egs_nil)), c_loose_parts a (ea_cons (ed_var rfl) (ea_cons (ed_var rfl) (ea_cons (ed_var rfl) ea_nil))) (p.sm e he)⟩)) ?_
  unfold dP prtE
  rw [List.map_map]
  rfl
end
end KX
/-! What the defs compute: counts, stretches, dealt totals. -/
namespace KX
open PySem PySem.Spec PyProof.Rows L2
/-! ### plain bounds -/
theorem below_abs {p l b : Int} (hp : 0 < p) : (belowF p l b).natAbs ≤ l.natAbs * b.natAbs + (p.natAbs + l.natAbs) := by
  unfold belowF
  have h1 : (l * (b / p)).natAbs ≤ l.natAbs * b.natAbs := by
    rw [Int.natAbs_mul]
    exact Nat.mul_le_mul_left _ (ediv_abs_pos b hp)
  have h2 : (mn (b % p) l).natAbs ≤ p.natAbs + l.natAbs := by
    have := Int.emod_nonneg b (show p ≠ 0 by omega)
    have := Int.emod_lt_of_pos b hp
    unfold mn
    split <;> omega
  omega
theorem two_mul_pow (n : Nat) : (2 : Nat) * 2 ^ n = 2 ^ (n + 1) := by rw [Nat.pow_succ]; omega
theorem turn_bd (t gap step : Int) : (if gap < 0 ∧ 0 < step then mn t ((step - 1 - gap) / step) else if 0 ≤ gap ∧ step < 0 then mn t (gap / (-step) + 1) else t).natAbs ≤ t.natAbs + 2 ∧ (t - (if gap < 0 ∧ 0 < step then mn t ((step - 1 - gap) / step) else if 0 ≤ gap ∧ step < 0 then mn t (gap / (-step) + 1) else t)).natAbs ≤ t.natAbs + 2 := by
  split
  · rename_i h
    have := Int.ediv_nonneg (show 0 ≤ step - 1 - gap by omega) (show 0 ≤ step by omega)
    unfold mn
    split <;> omega
  · split
    · rename_i h
      have := Int.ediv_nonneg h.1 (show 0 ≤ -step by omega)
      unfold mn
      split <;> omega
    · omega
theorem oft_abs (w : Way) (st u t : Int) : (oftF w st u t).natAbs ≤ st.natAbs + 2 * ((t.natAbs + 2) * (u.natAbs + 2)) := by
  have hA : ∀ x y : Int, x.natAbs ≤ t.natAbs + 2 → y.natAbs ≤ u.natAbs + 1 → (x * y).natAbs ≤ (t.natAbs + 2) * (u.natAbs + 1) := fun x y h1 h2 => by
    rw [Int.natAbs_mul]
    exact Nat.mul_le_mul h1 h2
  have hB : (t.natAbs + 2) * (u.natAbs + 2) = (t.natAbs + 2) * (u.natAbs + 1) + (t.natAbs + 2) := by rw [Nat.mul_succ (t.natAbs + 2) (u.natAbs + 1)]
  have hC : u.natAbs + 1 ≤ (t.natAbs + 2) * (u.natAbs + 1) := Nat.le_mul_of_pos_left _ (by omega)
  have nonhe : ∀ step turns other : Int, (step = u ∨ step = u + 1) → other = 2 * u + 1 - step → (turns.natAbs ≤ t.natAbs + 2 ∧ (t - turns).natAbs ≤ t.natAbs + 2) → (st + turns * step + (t - turns) * other).natAbs ≤ st.natAbs + 2 * ((t.natAbs + 2) * (u.natAbs + 2)) := by
    intro step turns other h1 h2 h3
    have g1 := hA turns step h3.1 (by omega)
    have g2 := hA (t - turns) other h3.2 (by omega)
    omega
  have hs : ∀ b : Bool, st + u + b2z b - st = u ∨ st + u + b2z b - st = u + 1 := by
    intro b
    cases b
    · left; show st + u + 0 - st = u; omega
    · right; show st + u + 1 - st = u + 1; omega
  cases w with
  | he =>
    show (st + u + (st + u) % 2 + (t - 1) * (u + u % 2)).natAbs ≤ _
    have g1 := hA (t - 1) (u + u % 2) (by omega) (by omega)
    omega
  | fl => exact nonhe _ _ _ (hs _) rfl (turn_bd _ _ _)
  | hu => exact nonhe _ _ _ (hs _) rfl (turn_bd _ _ _)
  | cu => exact nonhe _ _ _ (hs _) rfl (turn_bd _ _ _)
  | ha => exact nonhe _ _ _ (hs _) rfl (turn_bd _ _ _)
theorem cst_abs (w : Way) (st : Int) (p : Bool × Int) (t : Int) : (cst w st p t).natAbs ≤ st.natAbs + 2 * ((t.natAbs + 2) * (p.2.natAbs + 2)) := by
  unfold cst
  split
  · have h1 : (t * p.2).natAbs ≤ (t.natAbs + 2) * (p.2.natAbs + 2) := by
      rw [Int.natAbs_mul]
      exact Nat.mul_le_mul (by omega) (by omega)
    omega
  · split
    · exact oft_abs w st p.2 t
    · omega
theorem cnt_abs (w : Way) : ∀ (l : List ((Bool × Int) × Int)) (st : Int), (∀ q ∈ l, q.1.2.natAbs < 2 ^ 21 ∧ q.2.natAbs < 2 ^ 2000) → (l.foldl (fun st q => cst w st q.1 q.2) st).natAbs ≤ st.natAbs + l.length * 2 ^ 2030
  | [], st, _ => by simp
  | q :: l, st, h => by
    obtain ⟨h1, h2⟩ := h q List.mem_cons_self
    have ih := cnt_abs w l (cst w st q.1 q.2) fun x hx => h x (List.mem_cons_of_mem _ hx)
    have h3 := cst_abs w st q.1 q.2
    have h4 : (q.2.natAbs + 2) * (q.1.2.natAbs + 2) ≤ 2 ^ 2001 * 2 ^ 22 := by
      refine Nat.mul_le_mul ?_ ?_
      · have e := pow2s 2000
        have : 2 ≤ 2 ^ 2000 := Nat.le_trans (by decide : 2 ≤ 2 ^ 1) (Nat.pow_le_pow_right (by decide) (by decide))
        omega
      · omega
    have h5 : (2 : Nat) ^ 2001 * 2 ^ 22 = 2 ^ 2023 := by rw [← Nat.pow_add]
    have h6 : 2 * (2 : Nat) ^ 2023 ≤ 2 ^ 2030 := by
      rw [two_mul_pow]
      exact Nat.pow_le_pow_right (by decide) (by decide)
    rw [h5] at h4
    rw [List.foldl_cons, List.length_cons, Nat.succ_mul]
    omega
theorem cntF_abs {w : Way} {ps : List (Bool × Int)} {ts : List Int} (hp : OkP ps) (ht : ∀ t ∈ ts, t.natAbs < 2 ^ 2000) : (cntF w ps ts).natAbs < 2 ^ 2040 := by
  have h1 := cnt_abs w (ps.zip ts) 0 fun q hq => ⟨hp.sm q.1 (List.of_mem_zip hq).1, ht q.2 (List.of_mem_zip hq).2⟩
  have h2 : (ps.zip ts).length ≤ 3 := Nat.le_trans (by rw [List.length_zip]; exact Nat.min_le_left _ _) hp.few
  have h3 : (ps.zip ts).length * 2 ^ 2030 ≤ 3 * 2 ^ 2030 := Nat.mul_le_mul_right _ h2
  have h4 : 3 * (2 : Nat) ^ 2030 < 2 ^ 2040 := by
    have e : (2 : Nat) ^ 2040 = 2 ^ 10 * 2 ^ 2030 := by rw [← Nat.pow_add]
    rw [e]
    exact Nat.mul_lt_mul_of_pos_right (by decide) (Nat.pow_pos (by decide))
  unfold cntF
  have h5 : (0 : Int).natAbs = 0 := rfl
  omega
/-! ### counts -/
theorem counts_len {bs : List Int} {b P a h : Int} : (countsF bs b P a h).length = bs.length - 1 := by simp [countsF]
theorem counts_abs {bs : List Int} {b P a h : Int} (hb : OkB bs) (hd : OkD b P a) (h0 : 0 ≤ h) (h1 : h < P) : ∀ t ∈ countsF bs b P a h, t.natAbs < 2 ^ 2000 := by
  have hpos := Int.mul_pos hd.b0 hd.P0
  have q1 := nat_lt_of (Int.le_of_lt hd.b0) hd.bs
  have q2 := nat_lt_of (Int.le_of_lt hd.P0) hd.Ps
  have q3 : (b * P).natAbs < 2 ^ 800 := wide_lt q1 q2
  have q4 : (h * b).natAbs < 2 ^ 800 := wide_lt (show h.natAbs < 2 ^ 400 by omega) q1
  have q5 : a.natAbs < 2 ^ 800 := by have := hd.a0; have := hd.a1; omega
  have key : ∀ x, x = 0 ∨ x ∈ (bs.map fun x => belowF (b * P) b (x + (a - h * b))) → x.natAbs < 2 ^ 1999 := by
    intro x hx
    rcases hx with rfl | hx
    · exact Nat.pow_pos (by decide)
    obtain ⟨y, hy, rfl⟩ := List.mem_map.mp hx
    have g1 := hb.sm y hy
    have g2 := nat_lt_of g1.1 g1.2
    have g3 := below_abs (p := b * P) (l := b) (b := y + (a - h * b)) hpos
    have e1 : (y + (a - h * b)).natAbs < 2 ^ 802 := by
      have a1 := pow2s 801
      have a2 := pow2s 800
      have a3 : (2 : Nat) ^ 500 ≤ 2 ^ 800 := Nat.pow_le_pow_right (by decide) (by decide)
      omega
    have e2 : b.natAbs * (y + (a - h * b)).natAbs < 2 ^ 400 * 2 ^ 802 := Nat.mul_lt_mul'' q1 e1
    have e3 : (2 : Nat) ^ 400 * 2 ^ 802 = 2 ^ 1202 := by rw [← Nat.pow_add]
    have e4 : (2 : Nat) ^ 800 ≤ 2 ^ 1202 := Nat.pow_le_pow_right (by decide) (by decide)
    have e5 : (2 : Nat) ^ 400 ≤ 2 ^ 1202 := Nat.pow_le_pow_right (by decide) (by decide)
    have a1 := pow2s 1203
    have a2 := pow2s 1202
    have e6 : (2 : Nat) ^ 1204 ≤ 2 ^ 1999 := Nat.pow_le_pow_right (by decide) (by decide)
    omega
  intro t ht
  unfold countsF at ht
  obtain ⟨i, hi, rfl⟩ := List.mem_map.mp ht
  have g : ∀ j : Nat, ((bs.map fun x => belowF (b * P) b (x + (a - h * b))).getD j 0).natAbs < 2 ^ 1999 := by
    intro j
    apply key
    rw [List.getD_eq_getElem?_getD]
    cases q : (bs.map fun x => belowF (b * P) b (x + (a - h * b)))[j]? with
    | none => exact .inl rfl
    | some z => exact .inr (List.mem_of_getElem? q)
  have g1 := g (i + 1)
  have g2 := g i
  have a1 := pow2s 1999
  show (_ - _ : Int).natAbs < _
  omega
theorem getD_get {l : List Int} {i : Nat} (h : i < l.length) : l[i]? = some (l.getD i 0) := by
  rw [List.getD_eq_getElem?_getD, List.getElem?_eq_getElem h]
  rfl
theorem first_zero {bs : List Int} {b P a : Int} (hP : 0 < P) : 0 ∈ firstsF bs b P a := by
  unfold firstsF
  rw [mem_ssort, List.mem_filter]
  exact ⟨by simp, decide_eq_true hP⟩
theorem first_range {bs : List Int} {b P a : Int} (hP : 0 < P) : ∀ x ∈ firstsF bs b P a, 0 ≤ x ∧ x < P := by
  intro x hx
  unfold firstsF at hx
  rw [mem_ssort, List.mem_filter] at hx
  refine ⟨?_, of_decide_eq_true hx.2⟩
  have sp : ∀ y ∈ specF bs b P a, 0 ≤ y := by
    intro y hy
    obtain ⟨z, _, rfl⟩ := List.mem_map.mp hy
    exact Int.emod_nonneg _ (by omega)
  rcases List.mem_append.mp hx.1 with q | q
  · rcases List.mem_append.mp q with q | q
    · rw [List.mem_singleton.mp q]; exact Int.le_refl _
    · exact sp x q
  · obtain ⟨y, hy, rfl⟩ := List.mem_map.mp q
    have := sp y hy
    omega
theorem str_range {bs : List Int} {b P a : Int} (hP : 0 < P) : ∀ q ∈ strF bs b P a, (0 ≤ q.1 ∧ q.1 < P) ∧ 0 ≤ q.2 ∧ q.2 ≤ P := by
  intro q hq
  unfold strF at hq
  obtain ⟨h1, h2⟩ := List.of_mem_zip (a := q.1) (b := q.2) hq
  refine ⟨first_range hP _ h1, ?_⟩
  rcases List.mem_append.mp h2 with z | z
  · have := first_range hP _ (List.mem_of_mem_drop z)
    omega
  · rw [List.mem_singleton.mp z]
    omega
theorem cut1 (xs : List D) : cutD xs (some 1) none = xs.drop 1 := by
  unfold cutD
  have e : HT.sIx xs.length 0 (some 1) = min 1 xs.length := HT.sIx_nat xs.length 0 1
  rw [e, HT.sIx_none]
  have e2 : xs.drop (min 1 xs.length) = xs.drop 1 := by
    cases xs with
    | nil => rfl
    | cons x xs => rw [Nat.min_eq_left (by simp)]
  rw [e2, List.take_of_length_le]
  rw [List.length_drop]
  omega
theorem zipD_int (xs ys : List Int) : zipD (xs.map D.int) (ys.map D.int) = (xs.zip ys).map encQ := by
  unfold zipD
  rw [List.zip_map, List.map_map]
  rfl
theorem zipD_par (ps : List (Bool × Int)) (ts : List Int) : zipD (ps.map encP) (ts.map D.int) = (ps.zip ts).map fun q => .tup [encP q.1, .int q.2] := by
  unfold zipD
  rw [List.zip_map, List.map_map]
  rfl
section
variable {K : PySem.W.Frag} {δ : KX.Env} {ow : Own} {wd : World} {wi : TI} {g : TG} {tt : TT} {te : TE}
theorem ed_sortL (l : List Int) (p : Int → Bool) (h : Int → Int) {vs : List Nat} (he : EIL K wi δ ow (l.map D.int)) (hw : GW g vs) (ho : ∀ v ∈ vs, offO v ow = true) (hn : l.length < 60)
    (hs : ∀ a ∈ l, ∃ δ', EG K g (.int a) (wipeD δ vs) δ' ow ∧ ET K tt δ' ow (p a) ∧ (p a = true → ED K te δ' ow (.int (h a)))) :
    ED K (tCB (rSortedSet wd) (tCons (tSI wd wi g tt te vs) tNil)) δ ow (dZ (ssort ((l.filter p).map h))) := by
  have key := ed_sortSet (K := K) (δ := δ) (ow := ow) (wd := wd) (tt := tt) (te := te) (g := g) he hw ho (by rw [List.length_map]; exact hn) (fun i => (l[i]?.map p).getD false) (fun i => (l[i]?.map h).getD 0) fun i hi => by
    rw [List.length_map] at hi
    obtain ⟨δ', h1, h2, h3⟩ := hs l[i] (List.getElem_mem hi)
    refine ⟨δ', ?_, ?_, ?_⟩
    · rw [show (l.map D.int).getD i .non = .int l[i] from by rw [List.getD_eq_getElem?_getD, List.getElem?_map, List.getElem?_eq_getElem hi]; rfl]
      exact h1
    · rw [show (l[i]?.map p).getD false = p l[i] from by rw [List.getElem?_eq_getElem hi]; rfl]
      exact h2
    · rw [show (l[i]?.map p).getD false = p l[i] from by rw [List.getElem?_eq_getElem hi]; rfl, show (l[i]?.map h).getD 0 = h l[i] from by rw [List.getElem?_eq_getElem hi]; rfl]
      exact h3
  refine ed_is key ?_
  have e := filt_ix p (fun a => D.int (h a)) (fun i => (l[i]?.map p).getD false) (fun i => D.int ((l[i]?.map h).getD 0)) l 0 fun i a ha => by
    rw [Nat.zero_add, ha]
    exact ⟨rfl, rfl⟩
  rw [List.length_map, List.range_eq_range']
  have e2 : (((List.range' 0 l.length).filter fun i => (l[i]?.map p).getD false).map fun i => (l[i]?.map h).getD 0) = (l.filter p).map h := by
    have inj : ∀ {x y : List Int}, x.map D.int = y.map D.int → x = y := by
      intro x
      induction x with
      | nil => intro y q; cases y with | nil => rfl | cons _ _ => cases q
      | cons u x ih =>
        intro y q
        cases y with
        | nil => cases q
        | cons v y =>
          rw [List.map_cons, List.map_cons] at q
          injection q with q1 q2
          rw [D.int.inj q1, ih q2]
    apply inj
    rw [List.map_map, List.map_map]
    exact e
  rw [e2]
end
end KX
/-! What the defs compute: counts, stretches, dealt totals, pieces, values. -/
namespace KX
open PySem PySem.Spec PyProof.Rows L2
theorem brk_zero {bs : List Int} {b : Int} : 0 ∈ brkF bs b := by
  unfold brkF
  rw [mem_ssort]
  simp
theorem brk_range {bs : List Int} {b : Int} (hb : 0 < b) : ∀ x ∈ brkF bs b, 0 ≤ x ∧ x < b := by
  intro x hx
  unfold brkF at hx
  rw [mem_ssort] at hx
  rcases List.mem_append.mp hx with q | q
  · rw [List.mem_singleton.mp q]; omega
  · obtain ⟨y, hy, rfl⟩ := List.mem_map.mp q
    have h1 := Int.emod_nonneg y (show b ≠ 0 by omega)
    have h2 := Int.emod_lt_of_pos y hb
    have h3 : y % b ≠ 0 := of_decide_eq_true (List.mem_filter.mp hy).2
    omega
theorem brk_len {bs : List Int} {b : Int} : (brkF bs b).length ≤ bs.length + 1 := by
  unfold brkF
  refine Nat.le_trans (ssort_len _) ?_
  rw [List.length_append, List.length_map]
  have := List.length_filter_le (fun x => decide (x % b ≠ 0)) bs
  show 1 + _ ≤ _
  omega
theorem first_len {bs : List Int} {b P a : Int} : (firstsF bs b P a).length ≤ 2 * bs.length + 1 := by
  unfold firstsF
  refine Nat.le_trans (ssort_len _) (Nat.le_trans (List.length_filter_le _ _) ?_)
  simp [specF]
  omega
theorem pie_range {bs : List Int} {b : Int} (hb : 0 < b) : ∀ q ∈ pieF bs b, (0 ≤ q.1 ∧ q.1 < b) ∧ 0 ≤ q.2 ∧ q.2 ≤ b := by
  intro q hq
  unfold pieF at hq
  obtain ⟨h1, h2⟩ := List.of_mem_zip (a := q.1) (b := q.2) hq
  refine ⟨brk_range hb _ h1, ?_⟩
  rcases List.mem_append.mp h2 with z | z
  · have := brk_range hb _ (List.mem_of_mem_drop z)
    omega
  · rw [List.mem_singleton.mp z]
    omega
theorem pie_len {bs : List Int} {b : Int} : (pieF bs b).length ≤ bs.length + 1 := by
  unfold pieF
  rw [List.length_zip]
  exact Nat.le_trans (Nat.min_le_left _ _) brk_len
theorem mkb_ok {b P : Int} (hb : 0 < b) (hP : 0 < P) (h1 : b < 2 ^ 400) (h2 : P < 2 ^ 400) (x : Int) : OkD (mkb b P) P (x % (mkb b P * P)) := by
  have hm : 0 < mkb b P ∧ mkb b P < 2 ^ 400 ∧ (P = 1 → mkb b P = 1) := by
    unfold mkb
    split
    · exact ⟨hb, h1, fun h => by omega⟩
    · refine ⟨by decide, ?_, fun _ => rfl⟩
      have : b ≥ 1 := hb
      omega
  have hp := Int.mul_pos hm.1 hP
  exact ⟨hm.1, hP, hm.2.1, h2, Int.emod_nonneg _ (by omega), Int.emod_lt_of_pos _ hp, hm.2.2⟩
section
variable {K : PySem.W.Frag} {mg : Str → Option Value} {w : World} (Z : Bas K mg)
include Z
theorem l_counts_of {bs : List Int} {b P a h : Int} (hb : OkB bs) (hd : OkD b P a) (h0 : 0 ≤ h) (h1 : h < P) (hl : 1 ≤ bs.length) : LAW K (t_counts_of w K) [some (dZ bs), some (.deal b P a), some (.int h), none, none, none, none, none] (dZ (countsF bs b P a h)) := by
  obtain ⟨q1, q2, q3, q5, hpos⟩ := OkD.bn Z hd
  have q4 : (h * b).natAbs < 2 ^ 800 := wide_lt (show h.natAbs < 2 ^ 400 by omega) q1
  have hbs := hb.few
  refine es_seq (es_asg (ed_tup (ea_cons (c_Deal_turn (ed_var rfl) hd) (ea_cons (ed_I0 (ed_shift Z.clD (Z.noat "Deal" "shift") (ed_var rfl)) (ed_I (ed_var rfl) (ed_block Z.clD (Z.noat "Deal" "block") (ed_var rfl)) (mul_ok (show h.natAbs < 2 ^ 400 by omega) q1))) ea_nil)) (by simp)) (eg_tup (egs_cons eg_name (egs_cons eg_name egs_nil))) ?_)
  obtain ⟨held, eh⟩ : ∃ x, x = bs.map fun x => belowF (b * P) b (x + (a - h * b)) := ⟨_, rfl⟩
  have hlen : held.length = bs.length := by rw [eh, List.length_map]
  refine es_seq (es_set (d := dZ held) (ed_is (ed_lcA bs D.int (fun x => .int (belowF (b * P) b (x + (a - h * b)))) (eil_list (ed_var rfl)) (gw_name (by simp)) (fun _ _ => rfl) (by omega) (fun x hx => ⟨_, eg_name, c_below (ea_cons (ed_var rfl) (ea_cons (ed_block Z.clD (Z.noat "Deal" "block") (ed_var rfl)) (ea_cons (ed_I0 (ed_var rfl) (ed_var rfl)) ea_nil))) ⟨hpos, ?_, small_ok q1, ?_⟩⟩)) ?_) ?_)
  · have : ((2 ^ 800 : Nat) : Int) ≤ ((2 ^ 2000 : Nat) : Int) := Int.ofNat_le.mpr (Nat.pow_le_pow_right (by decide) (by decide))
    have e1 : ((2 ^ 800 : Nat) : Int) = 2 ^ 800 := by norm_cast
    have e2 : ((2 ^ 2000 : Nat) : Int) = 2 ^ 2000 := by norm_cast
    have : (b * P) < ((2 ^ 800 : Nat) : Int) := by omega
    omega
  · have g1 := hb.sm x hx
    have g2 := nat_lt_of g1.1 g1.2
    have a1 := pow2s 801
    have a2 := pow2s 800
    have a3 : (2 : Nat) ^ 500 ≤ 2 ^ 800 := Nat.pow_le_pow_right (by decide) (by decide)
    have a4 : (2 : Nat) ^ 802 ≤ 2 ^ 2000 := Nat.pow_le_pow_right (by decide) (by decide)
    omega
  · rw [eh]
    unfold dZ
    rw [List.map_map]
    rfl
  refine es_ret (d := dZ (countsF bs b P a h)) (ed_is (ed_lcA (List.range (held.length - 1)) (fun i : Nat => .int (i : Int)) (fun i : Nat => .int (held.getD (i + 1) 0 - held.getD i 0)) (eil_is (eil_range (ea_cons (ed_I0 (ed_cb (ea_cons (ed_var rfl) ea_nil) rd_lenL) ed_int) ea_nil) ?_) ?_) (gw_name (by simp)) (fun _ _ => rfl) (by simp; omega) (fun i hi => ⟨_, eg_name, ed_I0 (ed_ixL (ed_var rfl) (ed_I0 (ed_var rfl) ed_int) ?_) (ed_ixL (ed_var rfl) (ed_var rfl) ?_)⟩)) ?_) ?_
  · rw [List.length_map]
    omega
  · rw [List.length_map]
    congr 2
    omega
  · have hi2 := List.mem_range.mp hi
    have := atI_nat (xs := held.map D.int) (j := i + 1) (v := .int (held.getD (i + 1) 0)) (by rw [List.getElem?_map, getD_get (show i + 1 < held.length by omega)]; rfl)
    rw [Int.natCast_add] at this
    exact this
  · have hi2 := List.mem_range.mp hi
    exact atI_nat (xs := held.map D.int) (j := i) (v := .int (held.getD i 0)) (by rw [List.getElem?_map, getD_get (show i < held.length by omega)]; rfl)
  · show _ = dZ (countsF bs b P a h)
    unfold countsF dZ
    dsimp only
    rw [← eh, List.map_map]
    rfl
  · rfl
theorem l_stretches_of {bs : List Int} {b P a : Int} (hb : OkB bs) (hd : OkD b P a) : LAW K (t_stretches_of w K) [some (dZ bs), some (.deal b P a), none, none, none, none, none, none] (dQ (strF bs b P a)) := by
  obtain ⟨q1, q2, q3, q5, hpos⟩ := OkD.bn Z hd
  have hbs := hb.few
  obtain ⟨sp, esp⟩ : ∃ x, x = specF bs b P a := ⟨_, rfl⟩
  have hsp : sp.length = bs.length := by rw [esp]; unfold specF; rw [List.length_map]
  refine es_seq (es_set (d := dZ sp) (ed_is (ed_lcA bs D.int (fun x => .int ((x + a) / b % P)) (eil_list (ed_var rfl)) (gw_name (by simp)) (fun _ _ => rfl) (by omega) (fun x hx => ⟨_, eg_name, ed_I (ed_I (ed_I0 (ed_var rfl) (ed_shift Z.clD (Z.noat "Deal" "shift") (ed_var rfl))) (ed_block Z.clD (Z.noat "Deal" "block") (ed_var rfl)) (divW_ok hd.b0 (small_ok q1))) (ed_houses Z.clD (Z.noat "Deal" "houses") (ed_var rfl)) hd.P0⟩)) ?_) ?_)
  · rw [esp]
    unfold dZ specF
    rw [List.map_map]
    rfl
  obtain ⟨pt, ept⟩ : ∃ x, x = [0] ++ sp ++ sp.map (· + 1) := ⟨_, rfl⟩
  have hpt : pt.length = 2 * bs.length + 1 := by rw [ept]; simp; omega
  refine es_seq (es_set (d := dZ pt) (ed_is (ed_cat (ed_cat (ed_lst (ea_cons ed_int ea_nil) (by simp)) (ed_var rfl) ?_) (ed_lcA sp D.int (fun x => .int (x + 1)) (eil_list (ed_var rfl)) (gw_name (by simp)) (fun _ _ => rfl) (by omega) (fun x hx => ⟨_, eg_name, ed_I0 (ed_var rfl) ed_int⟩)) ?_) ?_) ?_)
  · simp; omega
  · simp; omega
  · rw [ept]
    unfold dZ
    rw [List.map_append, List.map_append, List.map_map]
    rfl
  obtain ⟨fs, efs⟩ : ∃ x, x = firstsF bs b P a := ⟨_, rfl⟩
  refine es_seq (es_set (d := dZ fs) (ed_is (ed_sortL pt (fun p => decide (p < P)) (fun x => x) (eil_list (ed_var rfl)) (gw_name (by simp)) (fun _ _ => rfl) (by omega) (fun x hx => ⟨_, eg_name, et_test (ed_B0 (ed_var rfl) (ed_houses Z.clD (Z.noat "Deal" "houses") (ed_var rfl))), fun _ => ed_var rfl⟩)) ?_) ?_)
  · rw [efs, List.map_id']
    unfold firstsF
    rw [← esp, ← ept]
  have hfs : fs.length ≤ 9 := by rw [efs]; have := first_len (bs := bs) (b := b) (P := P) (a := a); omega
  have hne : 0 < fs.length := by
    have := first_zero (bs := bs) (b := b) (a := a) hd.P0
    rw [← efs] at this
    exact List.length_pos_of_mem this
  refine es_ret (d := dQ (strF bs b P a)) (ed_is (ed_cb (ea_cons (ed_var rfl) (ea_cons (ed_is (d' := dZ (fs.drop 1 ++ [P])) (ed_cat (ed_slL (ed_var rfl) (eo_some ed_int) eo_none) (ed_lst (ea_cons (ed_houses Z.clD (Z.noat "Deal" "houses") (ed_var rfl)) ea_nil) (by simp)) ?_) ?_) ea_nil)) (rd_zipL ?_ ?_)) ?_) ?_
  · rw [cut1]
    simp
    omega
  · rw [cut1]
    unfold dZ
    rw [List.map_append, List.map_drop]
    rfl
  · simp
    omega
  · simp
    omega
  · show _ = dQ (strF bs b P a)
    rw [zipD_int]
    unfold strF
    rw [← efs]
  · rfl
theorem l_counted_total {ps : List (Bool × Int)} {ts : List Int} {a : Way} (hp : OkP ps) (hl : ps.length = ts.length) (ht : ∀ t ∈ ts, t.natAbs < 2 ^ 2000) (hs : ∀ p ∈ ps, p.1 = true → Sd a) : LAW K (t_counted_total w K) [some (dP ps), some (dZ ts), some (.str a.s), none, none, none, none] (.int (cntF a ps ts)) := by
  have hf := hp.few
  refine es_seq (es_set ed_int ?_)
  refine es_seq (es_forL (ps.zip ts) (fun q => .tup [encP q.1, .int q.2]) (fun st q => cst a st q.1 q.2) 0 (fun st δ' ow' => ow' = none ∧ ∃ x4 x5 x6 : Option D, δ' = [some (dP ps), some (dZ ts), some (.str a.s), some (.int st), x4, x5, x6]) (eil_is (eil_list (ed_cb (ea_cons (ed_var rfl) (ea_cons (ed_var rfl) ea_nil)) (rd_zipL ?_ ?_))) (zipD_par ps ts)) ⟨rfl, _, _, _, rfl⟩ (fun st q δ' ow' hq p' => ?_) (fun δ' ow' p' => ?_))
  · simp [hl]
  · simp; omega
  · obtain ⟨rfl, x4, x5, x6, rfl⟩ := p'
    obtain ⟨m1, m2⟩ := List.of_mem_zip (a := q.1) (b := q.2) hq
    have su := hp.sm q.1 m1
    have st2 := ht q.2 m2
    refine ⟨_, eg_tup (egs_cons (eg_tup (egs_cons eg_name (egs_cons eg_name egs_nil))) (egs_cons eg_name egs_nil)), ?_⟩
    refine es_if (et_not (et_B (ed_var rfl))) (fun h => ?_) (fun h => ?_)
    · refine es_aug rfl (ed_I (ed_var rfl) (ed_var rfl) (mul_ok st2 su)) ?_
      have e1 : cst a st q.1 q.2 = st + q.2 * q.1.2 := by
        unfold cst
        rw [if_pos h]
      rw [e1]
      exact ⟨rfl, _, _, _, rfl⟩
    · have hlo : q.1.1 = true := by
        cases z : q.1.1
        · rw [z] at h; cases h
        · rfl
      refine es_if (et_test (ed_B0 (ed_var rfl) ed_int)) (fun h2 => ?_) (fun h2 => ?_)
      · refine es_set (c_added_often (ea_cons (ed_var rfl) (ea_cons (ed_var rfl) (ea_cons (ed_var rfl) (ea_cons (ed_var rfl) ea_nil)))) ⟨hs q.1 m1 hlo, su, st2⟩) ?_
        have e1 : cst a st q.1 q.2 = oftF a st q.1.2 q.2 := by
          unfold cst
          rw [if_neg (by simp [hlo]), if_pos (of_decide_eq_true h2)]
        rw [e1]
        exact ⟨rfl, _, _, _, rfl⟩
      · refine es_next ?_
        have e1 : cst a st q.1 q.2 = st := by
          unfold cst
          rw [if_neg (by simp [hlo]), if_neg (of_decide_eq_false h2)]
        rw [e1]
        exact ⟨rfl, _, _, _, rfl⟩
  · obtain ⟨rfl, x4, x5, x6, rfl⟩ := p'
    exact es_ret (ed_var rfl) rfl
theorem l_dealt_of {bs : List Int} {ps : List (Bool × Int)} {b P a : Int} {y : Way} (hp : preD bs ps y) (hd : OkD b P a) : LAW K (t_dealt_of w K) [some (dZ bs), some (dP ps), some (.deal b P a), some (.str y.s), none, none, none] (.int (dealF y bs ps b P a)) := by
  obtain ⟨p1, p2, p3, p4⟩ := hp
  have q2 := (OkD.bn Z hd).2.1
  refine es_seq (es_set ed_int ?_)
  refine es_seq (es_forL (strF bs b P a) encQ (fun s q => s + (q.2 - q.1) * cntF y ps (countsF bs b P a q.1)) 0 (fun st δ' ow' => ow' = none ∧ ∃ x5 x6 : Option D, δ' = [some (dZ bs), some (dP ps), some (.deal b P a), some (.str y.s), some (.int st), x5, x6]) (eil_list (c_stretches_of (ea_cons (ed_var rfl) (ea_cons (ed_var rfl) ea_nil)) ⟨p1, hd⟩)) ⟨rfl, _, _, rfl⟩ (fun st q δ' ow' hq p' => ?_) (fun δ' ow' p' => ?_))
  · obtain ⟨rfl, x5, x6, rfl⟩ := p'
    have hr := str_range hd.P0 q hq
    have hc := counts_abs p1 hd hr.1.1 hr.1.2
    have hk := cntF_abs (w := y) p2 hc
    refine ⟨_, eg_tup (egs_cons eg_name (egs_cons eg_name egs_nil)), ?_⟩
    refine es_aug rfl (ed_I (ed_I0 (ed_var rfl) (ed_var rfl)) (c_counted_total (ea_cons (ed_var rfl) (ea_cons (c_counts_of (ea_cons (ed_var rfl) (ea_cons (ed_var rfl) (ea_cons (ed_var rfl) ea_nil))) ⟨p1, hd, hr.1.1, hr.1.2, by omega⟩) (ea_cons (ed_var rfl) ea_nil))) ⟨p2, by rw [counts_len]; omega, hc, p4⟩) (mul_ok (show (q.2 - q.1).natAbs < 2 ^ 401 from ?_) hk)) ?_
    · have := pow2s 400
      omega
    · exact ⟨rfl, _, _, rfl⟩
  · obtain ⟨rfl, x5, x6, rfl⟩ := p'
    exact es_ret (ed_var rfl) rfl
theorem l_dealt_total {es : Ent} {b P a : Int} {y : Way} (p : OkE es) (hd : OkD b P a) : LAW K (t_dealt_total w K) [some (dE es), some (.deal b P a), some (.int 0), some (.str y.s), none] (.wt (10 * dtotF y es b P a)) := by
  refine es_seq (es_set (c_runs_of (ea_cons (ed_var rfl) ea_nil) p) ?_)
  refine es_seq (es_drop (c_need_deal (ea_cons (ed_var rfl) ea_nil)) ?_)
  refine es_seq (es_drop (c_need_whole (ea_cons (ed_var rfl) ea_nil) (by decide)) ?_)
  refine es_seq (es_drop (c_need_way (ea_cons (ed_var rfl) ea_nil)) ?_)
  exact es_ret (ed_mkW (ea_cons (c_dealt_of (ea_cons (c_borders_of (ea_cons (ed_var rfl) ea_nil) p.form) (ea_cons (c_parts_of (ea_cons (ed_var rfl) (ea_cons (ed_var rfl) (ea_cons (ed_var rfl) ea_nil))) p.form) (ea_cons (ed_var rfl) (ea_cons (ed_var rfl) ea_nil)))) ⟨p.form.preD y, hd⟩) (ea_cons (ed_var rfl) ea_nil)) (.inl rfl)) rfl
theorem l_pieces_of {es : Ent} {b : Int} (p : OkE es) (hb : 0 < b) : LAW K (t_pieces_of w K) [some (dE es), some (.int b), none, none, none, none] (dQ (pieF (bordE es) b)) := by
  obtain ⟨bs, ebs⟩ : ∃ x, x = bordE es := ⟨_, rfl⟩
  have hbs : bs.length ≤ 4 := by rw [ebs]; exact p.bord.few
  obtain ⟨br, ebr⟩ : ∃ x, x = [0] ++ (bs.filter fun x => decide (x % b ≠ 0)).map fun x => b - x % b := ⟨_, rfl⟩
  have hfl : (bs.filter fun x => decide (x % b ≠ 0)).length ≤ 4 := Nat.le_trans (List.length_filter_le _ _) hbs
  have hbr : br.length ≤ 5 := by
    rw [ebr, List.length_append, List.length_map]
    simp at hfl ⊢
    omega
  refine es_seq (es_set (d := dZ br) (ed_is (ed_cat (ed_lst (ea_cons ed_int ea_nil) (by simp)) (ed_lcL bs D.int (fun x => decide (x % b ≠ 0)) (fun x => .int (b - x % b)) (eil_list (ed_is (c_borders_of (ea_cons (ed_var rfl) ea_nil) p) (by rw [ebs]))) (gw_name (by simp)) (fun _ _ => rfl) (by omega) (fun x hx => ⟨_, eg_name, et_is (et_test (ed_neI (ed_I (ed_var rfl) (ed_var rfl) hb) ed_int)) ?_, fun _ => ed_I0 (ed_var rfl) (ed_I (ed_var rfl) (ed_var rfl) hb)⟩)) ?_) ?_) ?_)
  · by_cases q : x % b = 0 <;> simp [q]
  · rw [List.length_map]
    simp at hfl ⊢
    omega
  · rw [ebr]
    unfold dZ
    rw [List.map_append, List.map_map]
    rfl
  obtain ⟨fs, efs⟩ : ∃ x, x = brkF bs b := ⟨_, rfl⟩
  refine es_seq (es_set (d := dZ fs) (ed_is (ed_sortL br (fun _ => true) (fun x => x) (eil_list (ed_var rfl)) (gw_name (by simp)) (fun _ _ => rfl) (by omega) (fun x hx => ⟨_, eg_name, et_yes, fun _ => ed_var rfl⟩)) ?_) ?_)
  · rw [efs, List.map_id', List.filter_eq_self.mpr (fun _ _ => rfl)]
    unfold brkF
    rw [← ebr]
  have hfs : fs.length ≤ 5 := by rw [efs]; have := brk_len (bs := bs) (b := b); omega
  have hne : 0 < fs.length := by
    have := brk_zero (bs := bs) (b := b)
    rw [← efs] at this
    exact List.length_pos_of_mem this
  refine es_ret (d := dQ (pieF (bordE es) b)) (ed_is (ed_cb (ea_cons (ed_var rfl) (ea_cons (ed_is (d' := dZ (fs.drop 1 ++ [b])) (ed_cat (ed_slL (ed_var rfl) (eo_some ed_int) eo_none) (ed_lst (ea_cons (ed_var rfl) ea_nil) (by simp)) ?_) ?_) ea_nil)) (rd_zipL ?_ ?_)) ?_) ?_
  · rw [cut1]
    simp
    omega
  · rw [cut1]
    unfold dZ
    rw [List.map_append, List.map_drop]
    rfl
  · simp
    omega
  · simp
    omega
  · show _ = dQ (pieF (bordE es) b)
    rw [zipD_int]
    unfold pieF
    rw [← ebs, ← efs]
  · rfl
end
end KX
/-! What the defs compute: values, told totals, least and greatest. -/
namespace KX
open PySem PySem.Spec PyProof.Rows L2
theorem foldl_app {α β : Type} (f : α → List β) : ∀ (l : List α) (s : List β), l.foldl (fun s q => s ++ f q) s = s ++ l.flatMap f
  | [], s => by simp
  | a :: l, s => by rw [List.foldl_cons, foldl_app f l, List.flatMap_cons, List.append_assoc]
theorem foldl_one {α β : Type} (f : α → β) : ∀ (l : List α) (s : List β), l.foldl (fun s q => s ++ [f q]) s = s ++ l.map f
  | [], s => by simp
  | a :: l, s => by rw [List.foldl_cons, foldl_one f l, List.map_cons, List.append_assoc]; rfl
def inF (w : Way) (rs : Ent) (b P : Int) (q : Int × Int) (k : Nat) : Int × Int × Int :=
  (dealF w (bordE rs) (prtE w rs) (mkb b P) P ((q.1 + k) % (mkb b P * P)), q.1 + (k : Int), if (k : Int) ≠ 0 then (q.2 - q.1 - k + 1) / 2 else 1)
theorem vals_eq (w : Way) (rs : Ent) (b P : Int) : valsF w rs b P = (pieF (bordE rs) b).flatMap fun q => (List.range (mn 3 (q.2 - q.1)).toNat).map (inF w rs b P q) := rfl
theorem mn3_le (x : Int) : (mn 3 x).toNat ≤ 3 := by unfold mn; split <;> omega
theorem vals_len {w : Way} {rs : Ent} {b P : Int} (p : OkE rs) : (valsF w rs b P).length ≤ 15 := by
  rw [vals_eq]
  have key : ∀ l : List (Int × Int), (l.flatMap fun q => (List.range (mn 3 (q.2 - q.1)).toNat).map (inF w rs b P q)).length ≤ 3 * l.length := by
    intro l
    induction l with
    | nil => simp
    | cons q l ih =>
      rw [List.flatMap_cons, List.length_append, List.length_map, List.length_range, List.length_cons]
      have := mn3_le (q.2 - q.1)
      omega
  have h1 := key (pieF (bordE rs) b)
  have h2 := pie_len (bs := bordE rs) (b := b)
  have h3 := p.bord.few
  omega
theorem vals_ne {w : Way} {rs : Ent} {b P : Int} (hb : 0 < b) : valsF w rs b P ≠ [] := by
  have h0 := brk_zero (bs := bordE rs) (b := b)
  have hr := brk_range (bs := bordE rs) hb
  have hs : (brkF (bordE rs) b).Pairwise (· < ·) := ssort_sorted _
  rw [vals_eq]
  unfold pieF
  cases q : brkF (bordE rs) b with
  | nil => rw [q] at h0; cases h0
  | cons x l =>
    rw [q] at h0 hr hs
    have hx := hr x List.mem_cons_self
    obtain ⟨s1, s2⟩ := List.pairwise_cons.mp hs
    have hx0 : x = 0 := by
      rcases List.mem_cons.mp h0 with e | e
      · exact e.symm
      · have := s1 0 e; omega
    obtain ⟨y, r, hy, hy0⟩ : ∃ y r, (x :: l).drop 1 ++ [b] = y :: r ∧ x < y := by
      cases l with
      | nil => exact ⟨b, [], rfl, by omega⟩
      | cons z l => exact ⟨z, l ++ [b], rfl, s1 z List.mem_cons_self⟩
    rw [hy, List.zip_cons_cons, List.flatMap_cons]
    intro e
    have e1 := (List.append_eq_nil_iff.mp e).1
    rw [List.map_eq_nil_iff, List.range_eq_nil] at e1
    have e1 : (mn 3 (y - x)).toNat = 0 := e1
    unfold mn at e1
    split at e1 <;> omega
theorem zip_lt {b : Int} : ∀ {fs : List Int}, fs.Pairwise (· < ·) → (∀ x ∈ fs, x < b) → ∀ q ∈ fs.zip (fs.drop 1 ++ [b]), q.1 < q.2
  | [], _, _, q, hq => by simp at hq
  | [x], _, h, q, hq => by
    have e : q = (x, b) := by simpa using hq
    rw [e]
    exact h x List.mem_cons_self
  | x :: y :: l, hs, h, q, hq => by
    obtain ⟨s1, s2⟩ := List.pairwise_cons.mp hs
    have hq : q ∈ (x, y) :: (y :: l).zip ((y :: l).drop 1 ++ [b]) := hq
    rcases List.mem_cons.mp hq with e | e
    · rw [e]
      exact s1 y List.mem_cons_self
    · exact zip_lt s2 (fun z hz => h z (List.mem_cons_of_mem _ hz)) q e
theorem pie_lt {bs : List Int} {b : Int} (hb : 0 < b) : ∀ q ∈ pieF bs b, q.1 < q.2 := zip_lt (ssort_sorted _) fun x hx => (brk_range hb x hx).2
theorem putZ_len (s : List (Int × Int)) (k v : Int) : (putZ s k v).length ≤ s.length + 1 := by
  unfold putZ
  split
  · rw [List.length_map]; omega
  · simp
theorem getZ_mem {s : List (Int × Int)} {k : Int} (h : k ∈ s.map (·.1)) : getZ s k = some ((getZ s k).getD 0) := by
  unfold getZ
  obtain ⟨p, hp, e⟩ := List.mem_map.mp h
  cases q : s.find? fun p => decide (p.1 = k) with
  | none =>
    have := List.find?_eq_none.mp q p hp
    exact absurd (decide_eq_true e) this
  | some z => rfl
theorem cnts_len (vs : List (Int × Int × Int)) : (cntsF vs).length ≤ vs.length := by
  have key : ∀ (vs : List (Int × Int × Int)) (s : List (Int × Int)), (vs.foldl (fun s v => putZ s v.1 ((getZ s v.1).getD 0 + v.2.2)) s).length ≤ s.length + vs.length := by
    intro vs
    induction vs with
    | nil => intro s; exact Nat.le_refl _
    | cons v vs ih =>
      intro s
      have h1 := ih (putZ s v.1 ((getZ s v.1).getD 0 + v.2.2))
      have h2 := putZ_len s v.1 ((getZ s v.1).getD 0 + v.2.2)
      rw [List.foldl_cons, List.length_cons]
      omega
  have := key vs []
  rw [List.length_nil, Nat.zero_add] at this
  exact this
section
variable {K : PySem.W.Frag} {mg : Str → Option Value} {w : World} (Z : Bas K mg)
include Z
theorem l_values_of {rs : Ent} {b P a : Int} {y : Way} (p : OkE rs) (hd : OkD b P a) : LAW K (t_values_of w K) [some (dE rs), some (.deal b P a), some (.int 0), some (.str y.s), none, none, none, none, none, none, none] (dV (valsF y rs b P)) := by
  obtain ⟨q1, q2, _, _, _⟩ := OkD.bn Z hd
  refine es_seq (es_par3A (c_borders_of (ea_cons (ed_var rfl) ea_nil) p) (c_parts_of (ea_cons (ed_var rfl) (ea_cons (ed_var rfl) (ea_cons (ed_var rfl) ea_nil))) p) (by decide) (by decide) (by simp) ?_)
  have hpl : (pieF (bordE rs) b).length ≤ 5 := by
    have h2 := pie_len (bs := bordE rs) (b := b)
    have h3 := p.bord.few
    omega
  refine es_seq (es_forI (pieF (bordE rs) b) encQ (fun s q => s ++ (List.range (mn 3 (q.2 - q.1)).toNat).map (inF y rs b P q)) [] (fun i s δ' ow' => s.length ≤ 3 * i ∧ ow' = some (4, .l (s.map encV)) ∧ ∃ x7 x8 x9 x10 : Option D, δ' = [some (dE rs), some (.deal b P a), some (.int 0), some (.str y.s), none, some (dZ (bordE rs)), some (dP (prtE y rs)), x7, x8, x9, x10]) (eil_list (c_pieces_of (ea_cons (ed_var rfl) (ea_cons (ed_block Z.clD (Z.noat "Deal" "block") (ed_var rfl)) ea_nil)) ⟨p, hd.b0⟩)) ⟨Nat.le_refl _, rfl, _, _, _, _, rfl⟩ (fun i s q δ' ow' hq p' => ?_) (fun δ' ow' p' => ?_))
  · obtain ⟨hlen, rfl, x7, x8, x9, x10, rfl⟩ := p'
    have hi5 : i < 5 := Nat.lt_of_lt_of_le (List.getElem?_eq_some_iff.mp hq).1 hpl
    have hr := pie_range hd.b0 q (List.mem_of_getElem? hq)
    have hm3 := mn3_le (q.2 - q.1)
    have hlt := pie_lt hd.b0 q (List.mem_of_getElem? hq)
    refine ⟨_, eg_tup (egs_cons eg_name (egs_cons eg_name egs_nil)), ?_⟩
    refine es_forI (List.range (mn 3 (q.2 - q.1)).toNat) (fun k : Nat => D.int (k : Int)) (fun s k => s ++ [inF y rs b P q k]) s (fun j s' δ' ow' => s'.length ≤ 3 * i + j ∧ ow' = some (4, .l (s'.map encV)) ∧ ∃ x9 x10 : Option D, δ' = [some (dE rs), some (.deal b P a), some (.int 0), some (.str y.s), none, some (dZ (bordE rs)), some (dP (prtE y rs)), some (.int q.1), some (.int q.2), x9, x10]) (eil_is (eil_range (ea_cons (ed_cb (ea_cons ed_int (ea_cons (ed_I0 (ed_var rfl) (ed_var rfl)) ea_nil)) rd_min2) ea_nil) ?_) rfl) ⟨hlen, rfl, _, _, rfl⟩ (fun j s' k δ' ow' hk p' => ?_) (fun δ' ow' p' => ?_)
    · constructor
      · split <;> omega
      · split <;> omega
    · obtain ⟨hlen', rfl, x9, x10, rfl⟩ := p'
      have hj : j < 3 := by
        have := (List.getElem?_eq_some_iff.mp hk).1
        rw [List.length_range] at this
        omega
      refine ⟨_, eg_name, ?_⟩
      refine es_seq (es_set (c_dealt_of (ea_cons (ed_var rfl) (ea_cons (ed_var rfl) (ea_cons (ed_mkD (ea_cons (ed_block Z.clD (Z.noat "Deal" "block") (ed_var rfl)) (ea_cons (ed_houses Z.clD (Z.noat "Deal" "houses") (ed_var rfl)) (ea_cons (ed_I0 (ed_var rfl) (ed_var rfl)) ea_nil))) ⟨hd.b0, hd.P0, q1, q2⟩) (ea_cons (ed_var rfl) ea_nil)))) ⟨p.preD y, mkb_ok hd.b0 hd.P0 hd.bs hd.Ps _⟩) ?_)
      refine es_app (d := encV (inF y rs b P q k)) (ed_is (ed_tup (ea_cons (ed_var rfl) (ea_cons (ed_I0 (ed_var rfl) (ed_var rfl)) (ea_cons (ed_iteI (et_truI (ed_var rfl)) (fun _ => (ed_I (ed_I0 (ed_I0 (ed_I0 (ed_var rfl) (ed_var rfl)) (ed_var rfl)) ed_int) ed_int (divW_ok (by decide) lit_ok))) (fun _ => ed_int)) ea_nil))) (by simp)) ?_) (by simp; omega) ?_
      · unfold inF encV
        dsimp only
        simp only [bne_iff_ne, ne_eq]
      · refine ⟨by simp; omega, by rw [List.map_append]; rfl, _, _, rfl⟩
    · obtain ⟨hlen', rfl, x9, x10, rfl⟩ := p'
      rw [List.length_range] at hlen'
      rw [foldl_one] at hlen' ⊢
      exact ⟨by omega, rfl, _, _, _, _, rfl⟩
  · obtain ⟨hlen, rfl, x7, x8, x9, x10, rfl⟩ := p'
    refine es_freeze ?_
    refine es_ret (ed_var rfl) ?_
    rw [foldl_app]
    rfl
theorem l_asked_values {es : Ent} {b P a : Int} {y : Way} (p : OkE es) (hd : OkD b P a) (pt : Told y (formF es)) : LAW K (t_asked_values w K) [some (dE es), some (.deal b P a), some (.int 0), some (.str y.s), none] (dV (valsF y (formF es) b P)) := by
  refine es_seq (es_set (c_runs_of (ea_cons (ed_var rfl) ea_nil) p) ?_)
  refine es_seq (es_drop (c_need_deal (ea_cons (ed_var rfl) ea_nil)) ?_)
  refine es_seq (es_drop (c_need_whole (ea_cons (ed_var rfl) ea_nil) (by decide)) ?_)
  refine es_seq (es_drop (c_need_way (ea_cons (ed_var rfl) ea_nil)) ?_)
  refine es_seq (es_drop (c_need_told_shiftsums (ea_cons (ed_var rfl) (ea_cons (ed_var rfl) (ea_cons (ed_var rfl) ea_nil))) ⟨p.form, pt⟩) ?_)
  exact es_ret (c_values_of (ea_cons (ed_var rfl) (ea_cons (ed_var rfl) (ea_cons (ed_var rfl) (ea_cons (ed_var rfl) ea_nil)))) ⟨p.form, hd⟩) rfl
theorem l_shift_totals {es : Ent} {b P a : Int} {y : Way} (p : OkE es) (hd : OkD b P a) (pt : Told y (formF es)) : LAW K (t_shift_totals w K) [some (dE es), some (.deal b P a), some (.int 0), some (.str y.s), none, none, none, none, none] (.tup ((told y es b P).map fun q => .tup [.wt (10 * q.1), .int q.2])) := by
  obtain ⟨vs, evs⟩ : ∃ x, x = valsF y (formF es) b P := ⟨_, rfl⟩
  have hvl : vs.length ≤ 15 := by rw [evs]; exact vals_len p.form
  refine es_seq (es_ownD (by simp) ?_)
  refine es_seq (es_forI vs encV (fun s v => putZ s v.1 ((getZ s v.1).getD 0 + v.2.2)) [] (fun i s δ' ow' => s.length ≤ i ∧ ow' = some (4, .d s) ∧ ∃ x5 x6 x7 x8 : Option D, δ' = [some (dE es), some (.deal b P a), some (.int 0), some (.str y.s), none, x5, x6, x7, x8]) (eil_list (ed_is (c_asked_values (ea_cons (ed_var rfl) (ea_cons (ed_var rfl) (ea_cons (ed_var rfl) (ea_cons (ed_var rfl) ea_nil)))) ⟨p, hd, pt⟩) (by rw [evs]))) ⟨Nat.le_refl _, rfl, _, _, _, _, rfl⟩ (fun i s v δ' ow' hv p' => ?_) (fun δ' ow' p' => ?_))
  · obtain ⟨hlen, rfl, x5, x6, x7, x8, rfl⟩ := p'
    have hi : i < 15 := Nat.lt_of_lt_of_le (List.getElem?_eq_some_iff.mp hv).1 hvl
    refine ⟨_, eg_tup (egs_cons eg_name (egs_cons eg_name (egs_cons eg_name egs_nil))), ?_⟩
    refine es_dput (ed_I0 (ed_getO (ed_var rfl) ed_int) (ed_var rfl)) (ed_var rfl) (by omega) ?_
    have := putZ_len s v.1 ((getZ s v.1).getD 0 + v.2.2)
    exact ⟨by omega, rfl, _, _, _, _, rfl⟩
  · obtain ⟨hlen, rfl, x5, x6, x7, x8, rfl⟩ := p'
    obtain ⟨c, ec⟩ : ∃ x, x = cntsF vs := ⟨_, rfl⟩
    have e0 : vs.foldl (fun s v => putZ s v.1 ((getZ s v.1).getD 0 + v.2.2)) [] = c := by rw [ec]; rfl
    rw [e0] at hlen ⊢
    have hk : (srt1 (c.map (·.1))).length ≤ 15 := by
      unfold srt1
      rw [List.length_mergeSort, List.length_map]
      omega
    refine es_ret (d := .tup ((told y es b P).map fun q => .tup [.wt (10 * q.1), .int q.2])) (ed_is (ed_cb (ea_cons (ed_lcA (srt1 (c.map (·.1))) D.int (fun u => .tup [.wt (10 * u), .int ((getZ c u).getD 0)]) (eil_list (ed_cb (ea_cons (ed_is (d' := dZ (c.map (·.1))) (ed_keysO (by simp) (by decide) (by omega)) (by unfold dZ; rw [List.map_map]; rfl)) ea_nil) (rd_sortI (by rw [List.length_map]; omega)))) (gw_name (by simp)) (fun v hv => by rw [List.mem_singleton.mp hv]; rfl) (by omega) (fun u hu => ⟨_, eg_name rfl, ed_tup (ea_cons (ed_mkW (ea_cons (ed_var rfl) (ea_cons (ed_var rfl) ea_nil)) (.inl rfl)) (ea_cons (ed_dgetO (ed_var rfl) (getZ_mem ?_)) ea_nil)) (by simp)⟩)) ea_nil) rd_tupL) ?_) rfl
    · exact (List.mergeSort_perm _ _).mem_iff.mp hu
    · unfold told
      dsimp only
      rw [← evs, ← ec, List.map_map]
      rfl
theorem sort_head {rows : List (List Int)} (h : rows ≠ []) : ∃ r, r ∈ rows ∧ (sortT rows).headD [] = r ∧ atI ((sortT rows).map rowD) 0 = some (rowD r) := by
  have hl : (sortT rows).length = rows.length := List.length_mergeSort ..
  cases q : sortT rows with
  | nil =>
    rw [q] at hl
    exact absurd (List.length_eq_zero_iff.mp hl.symm) h
  | cons r l =>
    have hm : r ∈ sortT rows := by rw [q]; exact List.mem_cons_self
    exact ⟨r, (List.mergeSort_perm _ _).mem_iff.mp hm, rfl, atI_nat (j := 0) rfl⟩
theorem l_least_shift {es : Ent} {b P a : Int} {y : Way} (p : OkE es) (hd : OkD b P a) (pt : Told y (formF es)) : LAW K (t_least_shift w K) [some (dE es), some (.deal b P a), some (.int 0), some (.str y.s), none, none, none] (.tup [.wt (10 * (leastF y es b P).getD 0 0), .int ((leastF y es b P).getD 1 0)]) := by
  obtain ⟨vs, evs⟩ : ∃ x, x = valsF y (formF es) b P := ⟨_, rfl⟩
  have hvl : vs.length ≤ 15 := by rw [evs]; exact vals_len p.form
  have hne : vs ≠ [] := by rw [evs]; exact vals_ne hd.b0
  obtain ⟨r, hr, e1, e2⟩ := sort_head Z (rows := vs.map fun v => [v.1, v.2.1, v.2.2]) (by simpa using hne)
  obtain ⟨v, hv, rfl⟩ := List.mem_map.mp hr
  have el : leastF y es b P = [v.1, v.2.1, v.2.2] := by unfold leastF; rw [← evs]; exact e1
  refine es_seq (es_asg (ed_ixL (ed_cb (ea_cons (ed_is (d' := .lst ((vs.map fun v => [v.1, v.2.1, v.2.2]).map rowD)) (c_asked_values (ea_cons (ed_var rfl) (ea_cons (ed_var rfl) (ea_cons (ed_var rfl) (ea_cons (ed_var rfl) ea_nil)))) ⟨p, hd, pt⟩) (by rw [← evs, List.map_map]; rfl)) ea_nil) (rd_sortT (fun x hx => ?_) (by rw [List.length_map]; omega))) ed_int e2) (eg_tup (egs_cons eg_name (egs_cons eg_name (egs_cons eg_name egs_nil)))) ?_)
  · obtain ⟨z, _, rfl⟩ := List.mem_map.mp hx
    simp
  · refine es_ret (ed_tup (ea_cons (ed_mkW (ea_cons (ed_var rfl) (ea_cons (ed_var rfl) ea_nil)) (.inl rfl)) (ea_cons (ed_var rfl) ea_nil)) (by simp)) ?_
    rw [el]
    rfl
theorem l_greatest_shift {es : Ent} {b P a : Int} {y : Way} (p : OkE es) (hd : OkD b P a) (pt : Told y (formF es)) : LAW K (t_greatest_shift w K) [some (dE es), some (.deal b P a), some (.int 0), some (.str y.s), none, none, none, none] (.tup [.wt (10 * -(greatF y es b P).getD 0 0), .int ((greatF y es b P).getD 1 0)]) := by
  obtain ⟨vs, evs⟩ : ∃ x, x = valsF y (formF es) b P := ⟨_, rfl⟩
  have hvl : vs.length ≤ 15 := by rw [evs]; exact vals_len p.form
  have hne : vs ≠ [] := by rw [evs]; exact vals_ne hd.b0
  obtain ⟨r, hr, e1, e2⟩ := sort_head Z (rows := vs.map fun v => [-v.1, v.2.1]) (by simpa using hne)
  obtain ⟨v, hv, rfl⟩ := List.mem_map.mp hr
  have el : greatF y es b P = [-v.1, v.2.1] := by unfold greatF; rw [← evs]; exact e1
  refine es_seq (es_set (d := .lst ((vs.map fun v => [-v.1, v.2.1]).map rowD)) (ed_is (ed_lcA vs encV (fun v => rowD [-v.1, v.2.1]) (eil_list (ed_is (c_asked_values (ea_cons (ed_var rfl) (ea_cons (ed_var rfl) (ea_cons (ed_var rfl) (ea_cons (ed_var rfl) ea_nil)))) ⟨p, hd, pt⟩) (by rw [evs]))) (gw_tup (gws_cons mo_name (gw_name (by simp)) (gws_cons mo_name (gw_name (by simp)) (gws_cons mo_name (gw_name (by simp)) gws_nil)))) (fun _ _ => rfl) (by omega) (fun v hv => ⟨_, eg_tup (egs_cons eg_name (egs_cons eg_name (egs_cons eg_name egs_nil))), ed_tup (ea_cons (ed_U (g := fun i => -i) (ed_var rfl)) (ea_cons (ed_var rfl) ea_nil)) (by simp)⟩)) (by rw [List.map_map]; rfl)) ?_)
  refine es_seq (es_asg (ed_ixL (ed_cb (ea_cons (ed_var rfl) ea_nil) (rd_sortT (fun x hx => ?_) (by rw [List.length_map]; omega))) ed_int e2) (eg_tup (egs_cons eg_name (egs_cons eg_name egs_nil))) ?_)
  · obtain ⟨z, _, rfl⟩ := List.mem_map.mp hx
    simp
  · refine es_ret (ed_tup (ea_cons (ed_mkW (ea_cons (ed_U (g := fun i => -i) (ed_var rfl)) (ea_cons (ed_var rfl) ea_nil)) (.inl rfl)) (ea_cons (ed_var rfl) ea_nil)) (by simp)) ?_
    rw [el]
    rfl
theorem l__law_rising {ws : List Int} (hl : ws.length ≤ 10) (hs : ∀ x ∈ ws, x.natAbs < 2 ^ 3000) : LAW K (t__law_rising w K) [some (.lst (ws.map D.wt)), none] (.bl (risF ws)) := by
  have hg : ∀ {i : Nat}, i < ws.length → atI (ws.map D.wt) (i : Int) = some (.wt (ws.getD i 0)) ∧ (ws.getD i 0).natAbs < 2 ^ 3000 := fun {i} hi => by
    have h1 : ws[i]? = some (ws.getD i 0) := getD_get hi
    exact ⟨atI_nat (by rw [List.getElem?_map, h1]; rfl), hs _ (List.mem_of_getElem? h1)⟩
  refine es_ret (d := .bl (risF ws)) (ed_is (ed_cb (ea_cons (ed_is (d' := .lst (((List.range (ws.length - 1)).map fun i => decide (sgn (ws.getD i 0 - ws.getD (i + 1) 0) < 1)).map D.bl)) (ed_lcA (List.range (ws.length - 1)) (fun i : Nat => .int (i : Int)) (fun i => .bl (decide (sgn (ws.getD i 0 - ws.getD (i + 1) 0) < 1))) (eil_is (eil_range (ea_cons (ed_I0 (ed_cb (ea_cons (ed_var rfl) ea_nil) rd_lenL) ed_int) ea_nil) ?_) ?_) (gw_name (by simp)) (fun _ _ => rfl) (by simp; omega) (fun i hi => ⟨_, eg_name, ed_B0 (c_compare (ea_cons (ed_ixL (ed_var rfl) (ed_var rfl) ?_) (ea_cons (ed_ixL (ed_var rfl) (ed_I0 (ed_var rfl) ed_int) ?_) ea_nil)) ?_) ed_int⟩)) ?_) ea_nil) rd_all) ?_) rfl
  · rw [List.length_map]; omega
  · rw [List.length_map]
    congr 2
    omega
  · exact (hg (show i < ws.length by have := List.mem_range.mp hi; omega)).1
  · have := (hg (i := i + 1) (show i + 1 < ws.length by have := List.mem_range.mp hi; omega)).1
    rw [Int.natCast_add] at this
    exact this
  · have h := List.mem_range.mp hi
    exact ⟨(hg (show i < ws.length by omega)).2, (hg (show i + 1 < ws.length by omega)).2⟩
  · rw [List.map_map]
    rfl
  · rw [List.all_map]
    rfl
theorem l__law_ends {es : Ent} {a : Way} {P : Int} (p : OkE es) (pt : Told a es) (pP : 0 < P) : LAW K (t__law_ends w K) [some (dE es), some (.str a.s), some (.int P), none] (.tup [.wt (10 * givLo a es P), .wt (10 * givHi a es P)]) := by
  refine es_seq (es_set (c_given_range (ea_cons (ed_var rfl) (ea_cons ed_int (ea_cons (ed_var rfl) (ea_cons (ed_var rfl) ea_nil)))) ⟨p, pt, pP⟩) ?_)
  refine es_ret (ed_if (b := true) (et_is (et_and (b := true) (et_B (ed_cb (ea_cons (ed_var rfl) (ea_cons ed_ty ea_nil)) (rd_isi Z.isW Z.isD rfl rfl))) fun _ => (et_test (ed_eqI (ed_cb (ea_cons (ed_var rfl) ea_nil) rd_lenT) ed_int))) (by simp)) (fun _ => ed_var rfl) (fun q => by cases q)) ?_
  rfl
end
end KX
/-! What the defs compute: the makers of Worths and Deals, == and the sign. -/
namespace KX
open PySem PySem.Spec PyProof.Rows L2
section
variable {K : PySem.W.Frag} {δ : KX.Env} {ow : Own} {ta tb : TE} {a b c d : Int}
theorem dp_2 {Hb H : Hp} {v : V} (s : Same Hb H) (r : Rep K Hb v (.tup [.int a, .int b])) : Dp K H v (.tuple [.int a, .int b]) := by
  rw [Rep] at r
  obtain ⟨q, us, rfl, h1, h2⟩ := r
  obtain ⟨x, y, rfl, h3, h4⟩ := repl2 h2
  rw [Rep] at h3 h4
  subst h3 h4
  exact .tup (Same.tup s h1) (.cons (.int a) (.cons (.int b) .nil))
theorem ed_eqT2 (ha : ED K ta δ ow (.tup [.int a, .int b])) (hb : ED K tb δ ow (.tup [.int c, .int d])) : ED K (tOp (rEqD K) ta tb) δ ow (.bl (decide (a = c ∧ b = d))) :=
  ed_2 ha hb fun Hb H v w Q s r1 r2 k => by
    refine ⟨_, _, dp_2 s r1, dp_2 s r2, rfl, rfl, ?_⟩
    have e : PyData.eqv (.tuple [.int a, .int b]) (.tuple [.int c, .int d]) = decide (a = c ∧ b = d) := by
      rw [Bool.eq_iff_iff]
      simp [PyData.eqv, PyData.eqvAll]
    rw [e]
    exact k _ Hb H (.refl s) rep_bl
end
section
variable {K : PySem.W.Frag} {mg : Str → Option Value} {w : World} (Z : Bas K mg)
include Z
theorem l_Worth___eq__ {n m : Int} : LAW K (t_Worth___eq__ w K) [some (.wt n), some (.wt m)] (gEq (n, m)) := by
  refine es_seq (es_if (et_not (et_B (b := true) (ed_cb (ea_cons (ed_var rfl) (ea_cons ed_adr ea_nil)) (rd_isiC Z.isW Z.isD rfl Z.isW.self)))) (fun h => by cases h) (fun h => es_next ?_))
  refine es_ret (ed_eqT2 (ed_tup (ea_cons (ed_units Z.clW (Z.noat "Worth" "units") (ed_var rfl)) (ea_cons (ed_scale Z.clW (Z.noat "Worth" "scale") (ed_var rfl)) ea_nil)) (by simp)) (ed_tup (ea_cons (ed_units Z.clW (Z.noat "Worth" "units") (ed_var rfl)) (ea_cons (ed_scale Z.clW (Z.noat "Worth" "scale") (ed_var rfl)) ea_nil)) (by simp))) ?_
  unfold gEq
  congr 1
  rw [decide_eq_decide]
  unfold wu wsc
  constructor
  · rintro ⟨h1, h2⟩
    dsimp only
    split at h1 <;> split at h1 <;> simp_all <;> omega
  · intro h
    have h : n = m := h
    rw [h]
    exact ⟨rfl, rfl⟩
theorem l_Worth___neg__ {n : Int} : LAW K (t_Worth___neg__ w K) [some (.wt n)] (gNeg n) := by
  refine es_ret (ed_mkW (ea_cons (ed_U (g := fun i => -i) (ed_units Z.clW (Z.noat "Worth" "units") (ed_var rfl))) (ea_cons (ed_scale Z.clW (Z.noat "Worth" "scale") (ed_var rfl)) ea_nil)) (by unfold wsc; split <;> simp)) ?_
  unfold gNeg tn wu wsc
  congr 1
  split
  · rw [if_pos rfl]; omega
  · rw [if_neg (by decide)]
theorem l_WI (vs : List V) (H : Hp) (Q : VK) (E : XK) (h : spWI K vs H Q E) : t_Worth___init__ w K { nx := fun _ H' => Q .non H', rt := Q } (L2.start ["self", "units", "scale"] vs) H := by
  obtain ⟨x, u, s, dx, Hb, rfl, hx, sm, ho, hs, q⟩ := h
  have ss : SS K H Hb H [some (V.ref x), some (.int u), some (.int s)] [none, some (.int u), some (.int s)] none := by
    refine ⟨sm, fun i d e => ?_, rfl, fun i c e => nomatch e⟩
    match i, e with
    | 0, e => cases e
    | 1, e =>
      cases e
      exact ⟨_, rfl, rep_int⟩
    | 2, e =>
      cases e
      exact ⟨_, rfl, rep_int⟩
  refine c_need_integer (i := u) (ea_cons (ed_var rfl) ea_nil) H Hb H _ _ ss fun v1 Hn1 H1 f1 _ => ?_
  refine c_need_whole (i := s) (ea_cons (ed_var rfl) ea_nil) (by omega) H Hn1 H1 _ _ (ss.fx f1) fun v2 Hn2 H2 f2 _ => ?_
  refine c_lowered (i := u) (j := s) (ea_cons (ed_var rfl) (ea_cons (ed_var rfl) ea_nil)) hs H Hn2 H2 _ _ ((ss.fx f1).fx f2) fun v3 Hn3 H3 f3 r3 => ?_
  rw [Rep] at r3
  obtain ⟨t, us, rfl, ht, hr⟩ := r3
  obtain ⟨y, z, rfl, h3, h4⟩ := repl2 hr
  rw [Rep] at h3 h4
  subst h3 h4
  have hx3 : H3 x = some (.ins (cW K) dx []) := f3.s _ _ (f2.s _ _ (f1.s _ _ ho))
  refine ⟨t, _, rfl, Same.tup f3.n2 ht, rfl, _, _, rfl, _, rfl, x, cW K, dx, [], rfl, hx3, Z.clW, Z.noat "Worth" "units", by decide, ?_⟩
  refine ⟨_, _, rfl, _, rfl, x, cW K, dx, _, rfl, upd_same, Z.clW, Z.noat "Worth" "scale", (by show 1 < 1000; decide), rfl, ?_⟩
  rw [upd_upd]
  exact q Hn3 H3 ((f1.trans f2).trans f3)
theorem l_DI (vs : List V) (H : Hp) (Q : VK) (E : XK) (h : spDI K vs H Q E) : t_Deal___init__ w K { nx := fun _ H' => Q .non H', rt := Q } (L2.start ["self", "block", "houses", "shift"] vs) H := by
  obtain ⟨x, b, P, a, dx, Hb, rfl, hx, sm, ho, ⟨h1, h2, h3, h4⟩, q⟩ := h
  have ss : SS K H Hb H [some (V.ref x), some (.int b), some (.int P), some (.int a)] [none, some (.int b), some (.int P), some (.int a)] none := by
    refine ⟨sm, fun i d e => ?_, rfl, fun i c e => nomatch e⟩
    match i, e with
    | 0, e => cases e
    | 1, e =>
      cases e
      exact ⟨_, rfl, rep_int⟩
    | 2, e =>
      cases e
      exact ⟨_, rfl, rep_int⟩
    | 3, e =>
      cases e
      exact ⟨_, rfl, rep_int⟩
  refine c_need_positive (i := b) (ea_cons (ed_var rfl) ea_nil) h1 H Hb H _ _ ss fun v1 Hn1 H1 f1 _ => ?_
  refine c_need_positive (i := P) (ea_cons (ed_var rfl) ea_nil) h2 H Hn1 H1 _ _ (ss.fx f1) fun v2 Hn2 H2 f2 _ => ?_
  refine c_need_integer (i := a) (ea_cons (ed_var rfl) ea_nil) H Hn2 H2 _ _ ((ss.fx f1).fx f2) fun v3 Hn3 H3 f3 r3 => ?_
  have hx3 : H3 x = some (.ins (cD K) dx []) := f3.s _ _ (f2.s _ _ (f1.s _ _ ho))
  refine ⟨_, rfl, _, rfl, x, cD K, dx, [], rfl, hx3, Z.clD, Z.noat "Deal" "houses", by decide, ?_⟩
  refine ⟨_, rfl, P, 1, rfl, rfl, ?_⟩
  have hm : (mkb b P).natAbs < 2 ^ 400 := by
    unfold mkb
    split
    · exact h3
    · exact lit_ok
  have hp : 0 < mkb b P := by unfold mkb; split <;> omega
  have fin : ∀ y : V, y = .int (mkb b P) → (gFld K (tVar 0) "block") y [some (V.ref x), some (.int b), some (.int P), some (.int a)] (upd H3 x (.ins (cD K) dx [("houses", .int P)])) (fun σ' H' => (tAsg (tOp rMod (tVar 3) (tOp rMul (tFld K (tVar 0) "block") (tVar 2))) (gFld K (tVar 0) "shift")) { nx := fun _ H' => Q .non H', rt := Q } σ' H') := by
    rintro y rfl
    refine ⟨_, rfl, x, cD K, dx, _, rfl, upd_same, Z.clD, Z.noat "Deal" "block", (by show 1 < 1000; decide), ?_⟩
    rw [upd_upd]
    refine ⟨_, rfl, _, rfl, x, cD K, dx, _, .int (mkb b P), rfl, upd_same, Z.clD, Z.noat "Deal" "block", rfl, _, rfl, mkb b P, P, rfl, rfl, mul_ok hm h4, a, mkb b P * P, rfl, rfl, Int.mul_pos hp h2, ?_⟩
    refine ⟨_, rfl, x, cD K, dx, _, rfl, upd_same, Z.clD, Z.noat "Deal" "shift", (by show 2 < 1000; decide), ?_⟩
    rw [upd_upd]
    exact q Hn3 H3 ((f1.trans f2).trans f3)
  by_cases hP : 1 < P
  · refine ⟨true, (by show V.bl (decide (1 < P)) = _; rw [decide_eq_true hP]), iteT ⟨_, rfl, fin _ (by unfold mkb; rw [if_pos hP])⟩⟩
  · refine ⟨false, (by show V.bl (decide (1 < P)) = _; rw [decide_eq_false hP]), iteF (fin _ (by unfold mkb; rw [if_neg hP]))⟩
end
end KX
/-! What the defs compute: the law's two larger parts. -/
namespace KX
open PySem PySem.Spec PyProof.Rows L2
theorem mkb_same {b P a : Int} (h : OkD b P a) : mkb b P = b := by
  unfold mkb
  split
  · rfl
  · have := h.P0
    exact (h.one (by omega)).symm
section
variable {K : PySem.W.Frag} {mg : Str → Option Value} {w : World} (Z : Bas K mg)
include Z
theorem tenth {x : Int} (h : x.natAbs < 2 ^ 2900) : (10 * x).natAbs < 2 ^ 3000 := by
  have e : (10 * x).natAbs = 10 * x.natAbs := by rw [Int.natAbs_mul]; rfl
  have h2 : 10 * x.natAbs < 2 ^ 4 * 2 ^ 2900 := Nat.mul_lt_mul'' (by decide) h
  rw [e]
  refine Nat.lt_of_lt_of_le h2 ?_
  rw [← Nat.pow_add]
  exact Nat.pow_le_pow_right (by decide) (by decide)
theorem l__law_shifts_right {es : Ent} {b P a : Int} {y : Way} {lo hi : Int} (p : PreS es b P a y lo hi) : LAW K (t__law_shifts_right w K) [some (dE es), some (.deal b P a), some (.str y.s), some (.wt lo), some (.wt hi), none, none, none, none, none, none, none, none] (.bl true) := by
  obtain ⟨⟨lu, el⟩, ⟨ls, es1⟩, ⟨gu, eg⟩, ⟨gs, es2⟩, ⟨T, eT⟩⟩ : (∃ x, x = (leastF y es b P).getD 0 0) ∧ (∃ x, x = (leastF y es b P).getD 1 0) ∧ (∃ x, x = -(greatF y es b P).getD 0 0) ∧ (∃ x, x = (greatF y es b P).getD 1 0) ∧ (∃ x, x = dtotF y es b P a) := ⟨⟨_, rfl⟩, ⟨_, rfl⟩, ⟨_, rfl⟩, ⟨_, rfl⟩, ⟨_, rfl⟩⟩
  have hri := p.ri
  have hl1 := p.l1
  have hg1 := p.g1
  have hl0 := p.l0
  have hg0 := p.g0
  have ht0 := p.t0
  have ht1 := p.t1
  have htm := p.tm
  have hsl := p.sl
  have hsm := p.sm
  rw [← el, ← eT, ← eg] at hri
  rw [← es1, ← el] at hl1
  rw [← es2, ← eg] at hg1
  rw [← es1] at hl0
  rw [← es2] at hg0
  rw [← el] at ht0
  rw [← eg] at ht1
  rw [← eT] at htm
  rw [← el] at hsl
  rw [← eT] at hsm
  have hgu : gu.natAbs < 2 ^ 2900 := by rw [eg, Int.natAbs_neg]; exact hsl.2
  refine es_seq (es_set (d := .wt (10 * T)) (ed_is (c_dealt_total (ea_cons (ed_var rfl) (ea_cons (ed_var rfl) (ea_cons ed_int (ea_cons (ed_var rfl) ea_nil)))) ⟨p.ok, p.dl⟩) (by rw [eT])) ?_)
  refine es_seq (es_par (d1 := .tup [.wt (10 * lu), .int ls]) (d2 := .tup [.wt (10 * gu), .int gs]) (ea_cons (ed_is (c_least_shift (ea_cons (ed_var rfl) (ea_cons (ed_var rfl) (ea_cons ed_int (ea_cons (ed_var rfl) ea_nil)))) ⟨p.ok, p.dl, p.td⟩) (by rw [el, es1])) (ea_cons (ed_is (c_greatest_shift (ea_cons (ed_var rfl) (ea_cons (ed_var rfl) (ea_cons ed_int (ea_cons (ed_var rfl) ea_nil)))) ⟨p.ok, p.dl, p.td⟩) (by rw [eg, es2])) ea_nil)) ?_)
  refine es_seq (es_if (et_not (et_B (b := risF [lo, 10 * lu, 10 * T, 10 * gu, hi]) (c__law_rising (ea_cons (ed_lst (ea_cons (ed_var rfl) (ea_cons (ed_ixT (ed_var rfl) ed_int rfl) (ea_cons (ed_var rfl) (ea_cons (ed_ixT (ed_var rfl) ed_int rfl) (ea_cons (ed_var rfl) ea_nil))))) (by simp)) ea_nil) ⟨by simp, fun x hx => ?_⟩))) (fun h => ?_) (fun h => es_next ?_))
  · simp only [List.mem_cons, List.not_mem_nil, or_false] at hx
    rcases hx with rfl | rfl | rfl | rfl | rfl
    · exact hsm.1
    · exact tenth Z hsl.1
    · exact tenth Z hsm.2.2
    · exact tenth Z hgu
    · exact hsm.2.1
  · rw [hri] at h
    cases h
  have hmk : ∀ s : Int, 0 ≤ s → s < b → mkb b P = b ∧ s % (b * P) = s ∧ OkD b P s := by
    intro s h1 h2
    have hb := p.dl.b0
    have hP := p.dl.P0
    have : b ≤ b * P := by
      have := Int.mul_le_mul_of_nonneg_left (show (1 : Int) ≤ P by omega) (show 0 ≤ b by omega)
      omega
    exact ⟨mkb_same p.dl, Int.emod_eq_of_lt h1 (by omega), ⟨hb, hP, p.dl.bs, p.dl.Ps, h1, by omega, p.dl.one⟩⟩
  obtain ⟨q1, q2, _, _, _⟩ := OkD.bn Z p.dl
  refine es_seq (es_forL [((10 * lu, ls) : Int × Int), (10 * gu, gs)] (fun q => .tup [.wt q.1, .int q.2]) (fun _ _ => ()) () (fun _ δ' ow' => ow' = none ∧ ∃ x8 x9 x10 x11 x12 : Option D, δ' = [some (dE es), some (.deal b P a), some (.str y.s), some (.wt lo), some (.wt hi), some (.wt (10 * T)), some (.tup [.wt (10 * lu), .int ls]), some (.tup [.wt (10 * gu), .int gs]), x8, x9, x10, x11, x12]) (eil_list (ed_lst (ea_cons (ed_var rfl) (ea_cons (ed_var rfl) ea_nil)) (by simp))) ⟨rfl, _, _, _, _, _, rfl⟩ (fun _ q δ' ow' hq p' => ?_) (fun δ' ow' p' => ?_))
  · obtain ⟨rfl, x8, x9, x10, x11, x12, rfl⟩ := p'
    refine ⟨_, eg_tup (egs_cons eg_name (egs_cons eg_name egs_nil)), ?_⟩
    have hq2 : (0 ≤ q.2 ∧ q.2 < b) ∧ 10 * dtotF y es b P q.2 = q.1 := by
      simp only [List.mem_cons, List.not_mem_nil, or_false] at hq
      rcases hq with rfl | rfl
      · exact ⟨hl0, by rw [hl1]⟩
      · exact ⟨hg0, by rw [hg1]⟩
    obtain ⟨m1, m2, m3⟩ := hmk q.2 hq2.1.1 hq2.1.2
    refine es_seq (es_set (d := .deal b P q.2) (ed_is (ed_mkD (ea_cons (ed_block Z.clD (Z.noat "Deal" "block") (ed_var rfl)) (ea_cons (ed_houses Z.clD (Z.noat "Deal" "houses") (ed_var rfl)) (ea_cons (ed_var rfl) ea_nil))) ⟨p.dl.b0, p.dl.P0, q1, q2⟩) (by rw [m1, m2])) ?_)
    refine es_if (et_or (et_not (et_test (ed_chain ed_int (ed_var rfl) (ed_block Z.clD (Z.noat "Deal" "block") (ed_var rfl))))) fun _ => (et_test (ed_neW (c_dealt_total (ea_cons (ed_var rfl) (ea_cons (ed_var rfl) (ea_cons ed_int (ea_cons (ed_var rfl) ea_nil)))) ⟨p.ok, m3⟩) (ed_var rfl)))) (fun h => ?_) (fun h => es_next ⟨rfl, _, _, _, _, _, rfl⟩)
    exfalso
    rw [decide_eq_true hq2.1.1, decide_eq_true hq2.1.2, decide_eq_true hq2.2] at h
    cases h
  · obtain ⟨rfl, x8, x9, x10, x11, x12, rfl⟩ := p'
    obtain ⟨tl, etl⟩ : ∃ x, x = told y es b P := ⟨_, rfl⟩
    rw [← etl] at ht0 ht1 htm
    have hfew := p.few
    have hsu := p.su
    rw [← etl] at hfew hsu
    have a0 : atI (tl.map fun q : Int × Int => D.tup [.wt (10 * q.1), .int q.2]) 0 = some (.tup [.wt (10 * lu), .int ((tl.headD (0, 0)).2)]) := by
      refine atI_nat (j := 0) ?_
      cases tl with
      | nil => cases ht0
      | cons q l =>
        have : q.1 = lu := by simpa using ht0
        rw [← this]
        rfl
    obtain ⟨z, hz, hz1⟩ : ∃ z : Int × Int, tl.getLast? = some z ∧ z.1 = gu := by
      rw [List.getLast?_map] at ht1
      cases q : tl.getLast? with
      | none => rw [q] at ht1; cases ht1
      | some z =>
        rw [q] at ht1
        exact ⟨z, rfl, by simpa using ht1⟩
    have a1 : atI (tl.map fun q : Int × Int => D.tup [.wt (10 * q.1), .int q.2]) (-1) = some (.tup [.wt (10 * gu), .int z.2]) := atI_last (by rw [List.getLast?_map, hz, ← hz1]; rfl)
    refine es_seq (es_set (d := .tup (tl.map fun q : Int × Int => D.tup [.wt (10 * q.1), .int q.2])) (ed_is (c_shift_totals (ea_cons (ed_var rfl) (ea_cons (ed_var rfl) (ea_cons ed_int (ea_cons (ed_var rfl) ea_nil)))) ⟨p.ok, p.dl, p.td⟩) (by rw [etl])) ?_)
    refine es_seq (es_if (b := false) (et_is (et_or (et_test (ed_neW (ed_ixT (ed_ixT (ed_var rfl) ed_int a0) ed_int rfl) (ed_ixT (ed_var rfl) ed_int rfl))) fun _ => (et_or (et_test (ed_neW (ed_ixT (ed_ixT (ed_var rfl) (ed_U (g := fun i => -i) ed_int) a1) ed_int rfl) (ed_ixT (ed_var rfl) ed_int rfl))) fun _ => (et_test (ed_neI (ed_cb (ea_cons (ed_is (d' := .lst ((tl.map (·.2)).map D.int)) (ed_lcA tl (fun q : Int × Int => D.tup [.wt (10 * q.1), .int q.2]) (fun q => .int q.2) (eil_tup (ed_var rfl)) (gw_name (by simp)) (fun _ _ => rfl) (by omega) (fun q hq => ⟨_, eg_name, ed_ixT (ed_var rfl) ed_int rfl⟩)) (by rw [List.map_map]; rfl)) ea_nil) rd_sum) (ed_block Z.clD (Z.noat "Deal" "block") (ed_var rfl)))))) (by rw [hsu]; simp)) (fun h => by cases h) (fun _ => es_next ?_))
    refine es_ret (ed_inWL (n := 10 * T) (ns := tl.map fun q => 10 * q.1) (ed_var rfl) (ed_is (ed_lcA tl (fun q : Int × Int => D.tup [.wt (10 * q.1), .int q.2]) (fun q => .wt (10 * q.1)) (eil_tup (ed_var rfl)) (gw_name (by simp)) (fun _ _ => rfl) (by omega) (fun q hq => ⟨_, eg_name, ed_ixT (ed_var rfl) ed_int rfl⟩)) (by rw [List.map_map]; rfl)) ?_) rfl
    obtain ⟨q, hq, e⟩ := List.mem_map.mp htm
    rw [← e]
    exact List.mem_map_of_mem hq
theorem l__law_giving_right {es : Ent} {y : Way} {P : Int} (p : PreG es y P) : LAW K (t__law_giving_right w K) [some (dE es), some (.str y.s), some (.int P), none, none, none, none, none] (.bl true) := by
  obtain ⟨p1, p2, p3, p4, p5, p6, p7⟩ := p
  have s1 := p4 P p3
  have s2 := p4 (P + 1) (by omega)
  refine es_seq (es_par (ea_cons (c__law_ends (ea_cons (ed_var rfl) (ea_cons (ed_var rfl) (ea_cons (ed_var rfl) ea_nil))) ⟨p1, p2, p3⟩) (ea_cons (c__law_ends (ea_cons (ed_var rfl) (ea_cons (ed_var rfl) (ea_cons (ed_I0 (ed_var rfl) ed_int) ea_nil))) ⟨p1, p2, by omega⟩) ea_nil)) ?_)
  refine es_seq (es_if (et_not (et_B (b := risF [10 * givLo y es (P + 1), 10 * givLo y es P, 10 * givHi y es P, 10 * givHi y es (P + 1)]) (c__law_rising (ea_cons (ed_lst (ea_cons (ed_ixT (ed_var rfl) ed_int rfl) (ea_cons (ed_ixT (ed_var rfl) ed_int rfl) (ea_cons (ed_ixT (ed_var rfl) ed_int rfl) (ea_cons (ed_ixT (ed_var rfl) ed_int rfl) ea_nil)))) (by simp)) ea_nil) ⟨by simp, fun x hx => ?_⟩))) (fun h => ?_) (fun h => es_next ?_))
  · simp only [List.mem_cons, List.not_mem_nil, or_false] at hx
    rcases hx with rfl | rfl | rfl | rfl
    · exact tenth Z s2.1
    · exact tenth Z s1.1
    · exact tenth Z s1.2
    · exact tenth Z s2.2
  · rw [p5] at h
    cases h
  have h59 : ((10 : Int) ^ (59 : Int).toNat) = 10 ^ 59 := rfl
  refine es_seq (es_par (d2 := .tup [.wt (10 * givLo y es (10 ^ 59)), .wt (10 * givHi y es (10 ^ 59))]) (ea_cons (c_houses_enough (ea_cons (ed_var rfl) (ea_cons ed_int (ea_cons (ed_var rfl) ea_nil))) ⟨p1, p2⟩) (ea_cons (c__law_ends (i := 10 ^ 59) (ea_cons (ed_var rfl) (ea_cons (ed_var rfl) (ea_cons (ed_I ed_int ed_int ⟨by decide, by decide, by decide⟩) ea_nil))) ⟨p1, p2, by decide⟩) ea_nil)) ?_)
  obtain ⟨e0, ee0⟩ : ∃ x, x = (if y = .he then enoF (negE es) else 1) := ⟨_, rfl⟩
  obtain ⟨e1, ee1⟩ : ∃ x, x = (if y = .he then enoF es else 1) := ⟨_, rfl⟩
  rw [← ee0, ← ee1]
  have g0 : 1 ≤ e0 ∧ givLo y es e0 = givLo y es (10 ^ 59) ∧ (1 < e0 → givLo y es (e0 - 1) ≠ givLo y es (10 ^ 59)) := by
    by_cases hy : y = .he
    · rw [ee0, if_pos hy]
      exact p6 hy
    · rw [ee0, if_neg hy]
      refine ⟨by decide, ?_, fun h => by omega⟩
      cases y <;> first | exact absurd rfl hy | rfl
  have g1 : 1 ≤ e1 ∧ givHi y es e1 = givHi y es (10 ^ 59) ∧ (1 < e1 → givHi y es (e1 - 1) ≠ givHi y es (10 ^ 59)) := by
    by_cases hy : y = .he
    · rw [ee1, if_pos hy]
      exact p7 hy
    · rw [ee1, if_neg hy]
      refine ⟨by decide, ?_, fun h => by omega⟩
      cases y <;> first | exact absurd rfl hy | rfl
  refine es_seq (es_forL [(0 : Nat), 1] (fun k : Nat => D.int (k : Int)) (fun _ _ => ()) () (fun _ δ' ow' => ow' = none ∧ ∃ x3 x4 x7 : Option D, δ' = [some (dE es), some (.str y.s), some (.int P), x3, x4, some (.tup [.int e0, .int e1]), some (.tup [.wt (10 * givLo y es (10 ^ 59)), .wt (10 * givHi y es (10 ^ 59))]), x7]) (eil_is (eil_range (ea_cons ed_int ea_nil) ⟨by decide, by decide⟩) rfl) ⟨rfl, _, _, _, rfl⟩ (fun _ k δ' ow' hk p' => ?_) (fun δ' ow' p' => ?_))
  · obtain ⟨rfl, x3, x4, x7, rfl⟩ := p'
    refine ⟨_, eg_name, ?_⟩
    simp only [List.mem_cons, List.not_mem_nil, or_false] at hk
    rcases hk with rfl | rfl
    · refine es_seq (es_if (et_or (et_test (ed_B0 (ed_ixT (ed_var rfl) (ed_var rfl) rfl) ed_int)) fun _ => (et_test (ed_neW (ed_ixT (c__law_ends (i := e0) (ea_cons (ed_var rfl) (ea_cons (ed_var rfl) (ea_cons (ed_ixT (ed_var rfl) (ed_var rfl) rfl) ea_nil))) ⟨p1, p2, by omega⟩) (ed_var rfl) rfl) (ed_ixT (ed_var rfl) (ed_var rfl) rfl)))) (fun h => ?_) (fun h => es_next ?_))
      · exfalso
        rw [decide_eq_false (show ¬ e0 < 1 by omega), decide_eq_true (show 10 * givLo y es e0 = 10 * givLo y es (10 ^ 59) by rw [g0.2.1])] at h
        cases h
      · refine es_if (et_and (et_test (ed_B0 (ed_ixT (ed_var rfl) (ed_var rfl) rfl) ed_int)) fun hg => (et_test (ed_eqW (ed_ixT (c__law_ends (i := e0 - 1) (ea_cons (ed_var rfl) (ea_cons (ed_var rfl) (ea_cons (ed_I0 (ed_ixT (ed_var rfl) (ed_var rfl) rfl) ed_int) ea_nil))) ⟨p1, p2, by have := of_decide_eq_true hg; omega⟩) (ed_var rfl) rfl) (ed_ixT (ed_var rfl) (ed_var rfl) rfl)))) (fun h => ?_) (fun h => es_next ⟨rfl, _, _, _, rfl⟩)
        exfalso
        obtain ⟨h1, h2⟩ := Bool.and_eq_true_iff.mp h
        have h1 := of_decide_eq_true h1
        have h2 : 10 * givLo y es (e0 - 1) = 10 * givLo y es (10 ^ 59) := of_decide_eq_true h2
        exact g0.2.2 h1 (by omega)
    · refine es_seq (es_if (et_or (et_test (ed_B0 (ed_ixT (ed_var rfl) (ed_var rfl) rfl) ed_int)) fun _ => (et_test (ed_neW (ed_ixT (c__law_ends (i := e1) (ea_cons (ed_var rfl) (ea_cons (ed_var rfl) (ea_cons (ed_ixT (ed_var rfl) (ed_var rfl) rfl) ea_nil))) ⟨p1, p2, by omega⟩) (ed_var rfl) rfl) (ed_ixT (ed_var rfl) (ed_var rfl) rfl)))) (fun h => ?_) (fun h => es_next ?_))
      · exfalso
        rw [decide_eq_false (show ¬ e1 < 1 by omega), decide_eq_true (show 10 * givHi y es e1 = 10 * givHi y es (10 ^ 59) by rw [g1.2.1])] at h
        cases h
      · refine es_if (et_and (et_test (ed_B0 (ed_ixT (ed_var rfl) (ed_var rfl) rfl) ed_int)) fun hg => (et_test (ed_eqW (ed_ixT (c__law_ends (i := e1 - 1) (ea_cons (ed_var rfl) (ea_cons (ed_var rfl) (ea_cons (ed_I0 (ed_ixT (ed_var rfl) (ed_var rfl) rfl) ed_int) ea_nil))) ⟨p1, p2, by have := of_decide_eq_true hg; omega⟩) (ed_var rfl) rfl) (ed_ixT (ed_var rfl) (ed_var rfl) rfl)))) (fun h => ?_) (fun h => es_next ⟨rfl, _, _, _, rfl⟩)
        exfalso
        obtain ⟨h1, h2⟩ := Bool.and_eq_true_iff.mp h
        have h1 := of_decide_eq_true h1
        have h2 : 10 * givHi y es (e1 - 1) = 10 * givHi y es (10 ^ 59) := of_decide_eq_true h2
        exact g1.2.2 h1 (by omega)
  · obtain ⟨rfl, x3, x4, x7, rfl⟩ := p'
    exact es_ret ed_bl rfl
end
end KX
/-! The derivations. Printed by gen.py. -/
namespace KX
open PySem PySem.Spec PyProof.Rows L2
section
variable {P : Program} {w : World} {K : PySem.W.Frag} {mg : Str → Option Value} {base : Heap}
abbrev N_is_integer : List Str := (["value"] : List Str)
theorem sc_is_integer : FnScope N_is_integer (["value"] : List Str) (defScope st_is_integer) := ⟨rfl, rfl, rfl, by decide +kernel, rfl, by decide +kernel, by decide +kernel⟩
theorem w_is_integer (Z : Bas K mg)  {f : Addr} {cdv : Value} {A : Around} {outer : List PySem.Env} {s : Shared} {H : Hp} {E : XK} (hr : Room 1 (A.deeper (envOfC "is_integer" (defScope st_is_integer) s.heap.objs.size f cdv))) :
    PSs (cxOf CX0 P w K mg base N_is_integer "is_integer" (defScope st_is_integer) f cdv A outer s H E).nox (defBody st_is_integer) (t_is_integer w K) := by
  have nd : (N_is_integer).Nodup := sc_is_integer.nd
  exact (pss_one (ps_ret (pe_and (pe_callB call_isi rfl (Z.free "isinstance") boot_isinstance (pa_cons (pv 0) (pa_cons (pe_bltn rfl (Z.free "int") boot_int rfl) pa_nil))) (pe_one (pe_not (pe_callB call_isi rfl (Z.free "isinstance") boot_isinstance (pa_cons (pv 0) (pa_cons (pe_bltn rfl (Z.free "bool") boot_bool rfl) pa_nil))))))))
abbrev N_is_whole : List Str := (["value"] : List Str)
theorem sc_is_whole : FnScope N_is_whole (["value"] : List Str) (defScope st_is_whole) := ⟨rfl, rfl, rfl, by decide +kernel, rfl, by decide +kernel, by decide +kernel⟩
theorem w_is_whole (Z : Bas K mg) (F_is_integer : Fct P w K mg base 2 "is_integer" (["value"] : List Str) (sp_is_integer K)) {f : Addr} {cdv : Value} {A : Around} {outer : List PySem.Env} {s : Shared} {H : Hp} {E : XK} (hr : Room 2 (A.deeper (envOfC "is_whole" (defScope st_is_whole) s.heap.objs.size f cdv))) :
    PSs (cxOf CX0 P w K mg base N_is_whole "is_whole" (defScope st_is_whole) f cdv A outer s H E).nox (defBody st_is_whole) (t_is_whole w K) := by
  have nd : (N_is_whole).Nodup := sc_is_whole.nd
  exact (pss_one (ps_ret (pe_and (pe_f F_is_integer hr (by decide) (pa_cons (pv 0) pa_nil)) (pe_one (pe_cmpR op_ge (pv 0) pe_int (nomark _))))))
abbrev N_need_integer : List Str := (["value"] : List Str)
theorem sc_need_integer : FnScope N_need_integer (["value"] : List Str) (defScope st_need_integer) := ⟨rfl, rfl, rfl, by decide +kernel, rfl, by decide +kernel, by decide +kernel⟩
theorem w_need_integer (Z : Bas K mg) (F_is_integer : Fct P w K mg base 2 "is_integer" (["value"] : List Str) (sp_is_integer K)) {f : Addr} {cdv : Value} {A : Around} {outer : List PySem.Env} {s : Shared} {H : Hp} {E : XK} (hr : Room 2 (A.deeper (envOfC "need_integer" (defScope st_need_integer) s.heap.objs.size f cdv))) :
    PSs (cxOf CX0 P w K mg base N_need_integer "need_integer" (defScope st_need_integer) f cdv A outer s H E).nox (defBody st_need_integer) (t_need_integer w K) := by
  have nd : (N_need_integer).Nodup := sc_need_integer.nd
  exact (pss_one (ps_if (pt_not (pt_val (pe_f F_is_integer hr (by decide) (pa_cons (pv 0) pa_nil)))) (pss_one ps_never) pss_nil))
abbrev N_need_whole : List Str := (["value"] : List Str)
theorem sc_need_whole : FnScope N_need_whole (["value"] : List Str) (defScope st_need_whole) := ⟨rfl, rfl, rfl, by decide +kernel, rfl, by decide +kernel, by decide +kernel⟩
theorem w_need_whole (Z : Bas K mg) (F_is_whole : Fct P w K mg base 3 "is_whole" (["value"] : List Str) (sp_is_whole K)) {f : Addr} {cdv : Value} {A : Around} {outer : List PySem.Env} {s : Shared} {H : Hp} {E : XK} (hr : Room 3 (A.deeper (envOfC "need_whole" (defScope st_need_whole) s.heap.objs.size f cdv))) :
    PSs (cxOf CX0 P w K mg base N_need_whole "need_whole" (defScope st_need_whole) f cdv A outer s H E).nox (defBody st_need_whole) (t_need_whole w K) := by
  have nd : (N_need_whole).Nodup := sc_need_whole.nd
  exact (pss_one (ps_if (pt_not (pt_val (pe_f F_is_whole hr (by decide) (pa_cons (pv 0) pa_nil)))) (pss_one ps_never) pss_nil))
abbrev N_need_positive : List Str := (["value"] : List Str)
theorem sc_need_positive : FnScope N_need_positive (["value"] : List Str) (defScope st_need_positive) := ⟨rfl, rfl, rfl, by decide +kernel, rfl, by decide +kernel, by decide +kernel⟩
theorem w_need_positive (Z : Bas K mg) (F_is_whole : Fct P w K mg base 3 "is_whole" (["value"] : List Str) (sp_is_whole K)) {f : Addr} {cdv : Value} {A : Around} {outer : List PySem.Env} {s : Shared} {H : Hp} {E : XK} (hr : Room 3 (A.deeper (envOfC "need_positive" (defScope st_need_positive) s.heap.objs.size f cdv))) :
    PSs (cxOf CX0 P w K mg base N_need_positive "need_positive" (defScope st_need_positive) f cdv A outer s H E).nox (defBody st_need_positive) (t_need_positive w K) := by
  have nd : (N_need_positive).Nodup := sc_need_positive.nd
  exact (pss_one (ps_if (PW.pt (pw_or (pt_not (pt_val (pe_f F_is_whole hr (by decide) (pa_cons (pv 0) pa_nil)))) (pw_or1 (pt_cmpR op_eq (pv 0) pe_int (nomark _))))) (pss_one ps_never) pss_nil))
abbrev N_need_items : List Str := (["value"] : List Str)
theorem sc_need_items : FnScope N_need_items (["value"] : List Str) (defScope st_need_items) := ⟨rfl, rfl, rfl, by decide +kernel, rfl, by decide +kernel, by decide +kernel⟩
theorem w_need_items (Z : Bas K mg)  {f : Addr} {cdv : Value} {A : Around} {outer : List PySem.Env} {s : Shared} {H : Hp} {E : XK} (hr : Room 1 (A.deeper (envOfC "need_items" (defScope st_need_items) s.heap.objs.size f cdv))) :
    PSs (cxOf CX0 P w K mg base N_need_items "need_items" (defScope st_need_items) f cdv A outer s H E).nox (defBody st_need_items) (t_need_items w K) := by
  have nd : (N_need_items).Nodup := sc_need_items.nd
  exact (pss_one (ps_if (pt_not (pt_val (pe_callB call_isiT rfl (Z.free "isinstance") boot_isinstance (pa_cons (pv 0) (pa_cons (pe_tup (pa_cons (pe_bltn rfl (Z.free "list") boot_list rfl) (pa_cons (pe_bltn rfl (Z.free "tuple") boot_tuple rfl) pa_nil))) pa_nil))))) (pss_one ps_never) pss_nil))
abbrev N_ten_to : List Str := (["number", "made", "base"] : List Str)
theorem sc_ten_to : FnScope N_ten_to (["number"] : List Str) (defScope st_ten_to) := ⟨rfl, rfl, rfl, by decide +kernel, rfl, by decide +kernel, by decide +kernel⟩
theorem w_ten_to (Z : Bas K mg)  {f : Addr} {cdv : Value} {A : Around} {outer : List PySem.Env} {s : Shared} {H : Hp} {E : XK} (hr : Room 1 (A.deeper (envOfC "ten_to" (defScope st_ten_to) s.heap.objs.size f cdv))) :
    PSs (cxOf CX0 P w K mg base N_ten_to "ten_to" (defScope st_ten_to) f cdv A outer s H E).nox (defBody st_ten_to) (t_ten_to w K) := by
  have nd : (N_ten_to).Nodup := sc_ten_to.nd
  exact (pss_cons (ps_asg (pe_tup (pa_cons pe_int (pa_cons pe_int pa_nil))) (pg_tup rfl (pgs_cons (pg_name (i := 1) nd rfl (Or.inl rfl)) (pgs_cons (pg_name (i := 2) nd rfl (Or.inl rfl)) pgs_nil))))
    (pss_cons (ps_while PassesOwn.never (pt_cmpR op_gt (pv 0) pe_int (nomark _)) (pss_cons (ps_if (pt_cmpR op_eq (pe_op op_mod (pv 0) pe_int) pe_int (nomark _)) (pss_one (ps_set (i := 1) nd rfl (Or.inl rfl) (pe_op op_mulW (pv 1) (pv 2)))) pss_nil)
    (pss_cons (ps_set (i := 2) nd rfl (Or.inl rfl) (pe_op op_mulW (pv 2) (pv 2)))
    (pss_one (ps_set (i := 0) nd rfl (Or.inl rfl) (pe_op op_fdivW (pv 0) pe_int))))))
    (pss_one (ps_ret (pv 1)))))
abbrev N_lowered : List Str := (["units", "scale"] : List Str)
theorem sc_lowered : FnScope N_lowered (["units", "scale"] : List Str) (defScope st_lowered) := ⟨rfl, rfl, rfl, by decide +kernel, rfl, by decide +kernel, by decide +kernel⟩
theorem w_lowered (Z : Bas K mg)  {f : Addr} {cdv : Value} {A : Around} {outer : List PySem.Env} {s : Shared} {H : Hp} {E : XK} (hr : Room 1 (A.deeper (envOfC "lowered" (defScope st_lowered) s.heap.objs.size f cdv))) :
    PSs (cxOf CX0 P w K mg base N_lowered "lowered" (defScope st_lowered) f cdv A outer s H E).nox (defBody st_lowered) (t_lowered w K) := by
  have nd : (N_lowered).Nodup := sc_lowered.nd
  exact (pss_cons (ps_if (pt_cmpR op_eq (pv 0) pe_int (nomark _)) (pss_one (ps_ret (pe_tup (pa_cons pe_int (pa_cons pe_int pa_nil))))) pss_nil)
    (pss_cons (ps_while PassesOwn.never (PW.pt (pw_and (pt_cmpR op_gt (pv 1) pe_int (nomark _)) (pw_and1 (pt_cmpR op_eq (pe_op op_mod (pv 0) pe_int) pe_int (nomark _))))) (pss_one (ps_par (i := 0) (j := 1) rfl nd rfl rfl (by decide) rfl rfl (pa_cons (pe_op op_fdivW (pv 0) pe_int) (pa_cons (pe_op op_sub (pv 1) pe_int) pa_nil)) rfl)))
    (pss_one (ps_ret (pe_tup (pa_cons (pv 0) (pa_cons (pv 1) pa_nil)))))))
abbrev N_Worth___init__ : List Str := (["self", "units", "scale"] : List Str)
theorem sc_Worth___init__ : FnScope N_Worth___init__ (["self", "units", "scale"] : List Str) (defScope st_Worth___init__) := ⟨rfl, rfl, rfl, by decide +kernel, rfl, by decide +kernel, by decide +kernel⟩
theorem w_Worth___init__ (Z : Bas K mg) (F_lowered : Fct P w K mg base 2 "lowered" (["units", "scale"] : List Str) (sp_lowered K)) (F_need_integer : Fct P w K mg base 3 "need_integer" (["value"] : List Str) (sp_need_integer K)) (F_need_whole : Fct P w K mg base 4 "need_whole" (["value"] : List Str) (sp_need_whole K)) {f : Addr} {cdv : Value} {A : Around} {outer : List PySem.Env} {s : Shared} {H : Hp} {E : XK} (hr : Room 4 (A.deeper (envOfC "Worth.__init__" (defScope st_Worth___init__) s.heap.objs.size f cdv))) :
    PSs (cxOf CX0 P w K mg base N_Worth___init__ "Worth.__init__" (defScope st_Worth___init__) f cdv A outer s H E).nox (defBody st_Worth___init__) (t_Worth___init__ w K) := by
  have nd : (N_Worth___init__).Nodup := sc_Worth___init__.nd
  exact (pss_cons (ps_expr (pe_f F_need_integer hr (by decide) (pa_cons (pv 1) pa_nil)))
    (pss_cons (ps_expr (pe_f F_need_whole hr (by decide) (pa_cons (pv 2) pa_nil)))
    (pss_one (ps_asg (pe_f F_lowered hr (by decide) (pa_cons (pv 1) (pa_cons (pv 2) pa_nil))) (pg_tup rfl (pgs_cons (pg_fld (pv 0)) (pgs_cons (pg_fld (pv 0)) pgs_nil)))))))
abbrev N_Worth___eq__ : List Str := (["self", "other"] : List Str)
theorem sc_Worth___eq__ : FnScope N_Worth___eq__ (["self", "other"] : List Str) (defScope st_Worth___eq__) := ⟨rfl, rfl, rfl, by decide +kernel, rfl, by decide +kernel, by decide +kernel⟩
theorem w_Worth___eq__ (Z : Bas K mg)  {f : Addr} {cdv : Value} {A : Around} {outer : List PySem.Env} {s : Shared} {H : Hp} {E : XK} (hr : Room 1 (A.deeper (envOfC "Worth.__eq__" (defScope st_Worth___eq__) s.heap.objs.size f cdv))) :
    PSs (cxOf CX0 P w K mg base N_Worth___eq__ "Worth.__eq__" (defScope st_Worth___eq__) f cdv A outer s H E).nox (defBody st_Worth___eq__) (t_Worth___eq__ w K) := by
  have nd : (N_Worth___eq__).Nodup := sc_Worth___eq__.nd
  exact (pss_cons (ps_if (pt_not (pt_val (pe_callB call_isi rfl (Z.free "isinstance") boot_isinstance (pa_cons (pv 1) (pa_cons (pe_glob rfl (Z.glo "Worth") rfl) pa_nil))))) (pss_one (ps_ret pe_bl)) pss_nil)
    (pss_one (ps_ret (pe_cmpR (op_eqD (hu64 hr)) (pe_tup (pa_cons (pe_fld (pv 0) rfl) (pa_cons (pe_fld (pv 0) rfl) pa_nil))) (pe_tup (pa_cons (pe_fld (pv 1) rfl) (pa_cons (pe_fld (pv 1) rfl) pa_nil))) (nomark _)))))
abbrev N_Worth___neg__ : List Str := (["self"] : List Str)
theorem sc_Worth___neg__ : FnScope N_Worth___neg__ (["self"] : List Str) (defScope st_Worth___neg__) := ⟨rfl, rfl, rfl, by decide +kernel, rfl, by decide +kernel, by decide +kernel⟩
theorem w_Worth___neg__ (Z : Bas K mg) (MkW : MkrW P w K mg base 5) {f : Addr} {cdv : Value} {A : Around} {outer : List PySem.Env} {s : Shared} {H : Hp} {E : XK} (hr : Room 6 (A.deeper (envOfC "Worth.__neg__" (defScope st_Worth___neg__) s.heap.objs.size f cdv))) :
    PSs (cxOf CX0 P w K mg base N_Worth___neg__ "Worth.__neg__" (defScope st_Worth___neg__) f cdv A outer s H E).nox (defBody st_Worth___neg__) (t_Worth___neg__ w K) := by
  have nd : (N_Worth___neg__).Nodup := sc_Worth___neg__.nd
  exact (pss_one (ps_ret (pe_mkW MkW hr (by decide) (pa_cons (pe_un un_neg (pe_fld (pv 0) rfl)) (pa_cons (pe_fld (pv 0) rfl) pa_nil)))))
abbrev N_Worth_sign : List Str := (["self"] : List Str)
theorem sc_Worth_sign : FnScope N_Worth_sign (["self"] : List Str) (defScope st_Worth_sign) := ⟨rfl, rfl, rfl, by decide +kernel, rfl, by decide +kernel, by decide +kernel⟩
theorem w_Worth_sign (Z : Bas K mg)  {f : Addr} {cdv : Value} {A : Around} {outer : List PySem.Env} {s : Shared} {H : Hp} {E : XK} (hr : Room 1 (A.deeper (envOfC "Worth.sign" (defScope st_Worth_sign) s.heap.objs.size f cdv))) :
    PSs (cxOf CX0 P w K mg base N_Worth_sign "Worth.sign" (defScope st_Worth_sign) f cdv A outer s H E).nox (defBody st_Worth_sign) (t_Worth_sign w K) := by
  have nd : (N_Worth_sign).Nodup := sc_Worth_sign.nd
  exact (pss_one (ps_ret (pe_op op_sub (pe_callTy call_int1 rfl (Z.free "int") boot_int (pa_cons (pe_cmpR op_gt (pe_fld (pv 0) rfl) pe_int (nomark _)) pa_nil)) (pe_callTy call_int1 rfl (Z.free "int") boot_int (pa_cons (pe_cmpR op_lt (pe_fld (pv 0) rfl) pe_int (nomark _)) pa_nil)))))
abbrev N_Worth_units_at : List Str := (["self", "scale"] : List Str)
theorem sc_Worth_units_at : FnScope N_Worth_units_at (["self", "scale"] : List Str) (defScope st_Worth_units_at) := ⟨rfl, rfl, rfl, by decide +kernel, rfl, by decide +kernel, by decide +kernel⟩
theorem w_Worth_units_at (Z : Bas K mg) (F_need_whole : Fct P w K mg base 4 "need_whole" (["value"] : List Str) (sp_need_whole K)) (F_ten_to : Fct P w K mg base 2 "ten_to" (["number"] : List Str) (sp_ten_to K)) {f : Addr} {cdv : Value} {A : Around} {outer : List PySem.Env} {s : Shared} {H : Hp} {E : XK} (hr : Room 4 (A.deeper (envOfC "Worth.units_at" (defScope st_Worth_units_at) s.heap.objs.size f cdv))) :
    PSs (cxOf CX0 P w K mg base N_Worth_units_at "Worth.units_at" (defScope st_Worth_units_at) f cdv A outer s H E).nox (defBody st_Worth_units_at) (t_Worth_units_at w K) := by
  have nd : (N_Worth_units_at).Nodup := sc_Worth_units_at.nd
  exact (pss_cons (ps_expr (pe_f F_need_whole hr (by decide) (pa_cons (pv 1) pa_nil)))
    (pss_cons (ps_if (pt_cmpR op_lt (pv 1) (pe_fld (pv 0) rfl) (nomark _)) (pss_one ps_never) pss_nil)
    (pss_one (ps_ret (pe_op op_mulW (pe_fld (pv 0) rfl) (pe_f F_ten_to hr (by decide) (pa_cons (pe_op op_sub (pv 1) (pe_fld (pv 0) rfl)) pa_nil)))))))
abbrev N_need_worth : List Str := (["value"] : List Str)
theorem sc_need_worth : FnScope N_need_worth (["value"] : List Str) (defScope st_need_worth) := ⟨rfl, rfl, rfl, by decide +kernel, rfl, by decide +kernel, by decide +kernel⟩
theorem w_need_worth (Z : Bas K mg)  {f : Addr} {cdv : Value} {A : Around} {outer : List PySem.Env} {s : Shared} {H : Hp} {E : XK} (hr : Room 1 (A.deeper (envOfC "need_worth" (defScope st_need_worth) s.heap.objs.size f cdv))) :
    PSs (cxOf CX0 P w K mg base N_need_worth "need_worth" (defScope st_need_worth) f cdv A outer s H E).nox (defBody st_need_worth) (t_need_worth w K) := by
  have nd : (N_need_worth).Nodup := sc_need_worth.nd
  exact (pss_one (ps_if (pt_not (pt_val (pe_callB call_isi rfl (Z.free "isinstance") boot_isinstance (pa_cons (pv 0) (pa_cons (pe_glob rfl (Z.glo "Worth") rfl) pa_nil))))) (pss_one ps_never) pss_nil))
end
end KX
/-! The derivations. Printed by gen.py. -/
namespace KX
open PySem PySem.Spec PyProof.Rows L2
section
variable {P : Program} {w : World} {K : PySem.W.Frag} {mg : Str → Option Value} {base : Heap}
abbrev N_worth_sum : List Str := (["one", "other", "sign", "scale", "units"] : List Str)
theorem sc_worth_sum : FnScope N_worth_sum (["one", "other", "sign"] : List Str) (defScope st_worth_sum) := ⟨rfl, rfl, rfl, by decide +kernel, rfl, by decide +kernel, by decide +kernel⟩
theorem w_worth_sum (Z : Bas K mg) (F_ten_to : Fct P w K mg base 2 "ten_to" (["number"] : List Str) (sp_ten_to K)) (MkW : MkrW P w K mg base 5) {f : Addr} {cdv : Value} {A : Around} {outer : List PySem.Env} {s : Shared} {H : Hp} {E : XK} (hr : Room 6 (A.deeper (envOfC "worth_sum" (defScope st_worth_sum) s.heap.objs.size f cdv))) :
    PSs (cxOf CX0 P w K mg base N_worth_sum "worth_sum" (defScope st_worth_sum) f cdv A outer s H E).nox (defBody st_worth_sum) (t_worth_sum w K) := by
  have nd : (N_worth_sum).Nodup := sc_worth_sum.nd
  exact (pss_cons (ps_set (i := 3) nd rfl (Or.inl rfl) (pe_callB (call_max2 rfl) rfl (Z.free "max") boot_max (pa_cons (pe_fld (pv 0) rfl) (pa_cons (pe_fld (pv 1) rfl) pa_nil))))
    (pss_cons (ps_set (i := 4) nd rfl (Or.inl rfl) (pe_op op_mulW (pe_fld (pv 0) rfl) (pe_f F_ten_to hr (by decide) (pa_cons (pe_op op_sub (pv 3) (pe_fld (pv 0) rfl)) pa_nil))))
    (pss_one (ps_ret (pe_mkW MkW hr (by decide) (pa_cons (pe_op op_add (pv 4) (pe_op op_mulW (pe_op op_mulW (pv 2) (pe_fld (pv 1) rfl)) (pe_f F_ten_to hr (by decide) (pa_cons (pe_op op_sub (pv 3) (pe_fld (pv 1) rfl)) pa_nil)))) (pa_cons (pv 3) pa_nil)))))))
abbrev N_compare : List Str := (["one", "other"] : List Str)
theorem sc_compare : FnScope N_compare (["one", "other"] : List Str) (defScope st_compare) := ⟨rfl, rfl, rfl, by decide +kernel, rfl, by decide +kernel, by decide +kernel⟩
theorem w_compare (Z : Bas K mg) (F_need_worth : Fct P w K mg base 2 "need_worth" (["value"] : List Str) (sp_need_worth K)) (F_worth_sum : Fct P w K mg base 7 "worth_sum" (["one", "other", "sign"] : List Str) (sp_worth_sum K)) (M_Worth_sign : Mtd P w K mg base 2 (cW K) "sign" (["self"] : List Str) (sp_Worth_sign K)) {f : Addr} {cdv : Value} {A : Around} {outer : List PySem.Env} {s : Shared} {H : Hp} {E : XK} (hr : Room 7 (A.deeper (envOfC "compare" (defScope st_compare) s.heap.objs.size f cdv))) :
    PSs (cxOf CX0 P w K mg base N_compare "compare" (defScope st_compare) f cdv A outer s H E).nox (defBody st_compare) (t_compare w K) := by
  have nd : (N_compare).Nodup := sc_compare.nd
  exact (pss_cons (ps_expr (pe_f F_need_worth hr (by decide) (pa_cons (pv 0) pa_nil)))
    (pss_cons (ps_expr (pe_f F_need_worth hr (by decide) (pa_cons (pv 1) pa_nil)))
    (pss_one (ps_ret (pe_m0 M_Worth_sign Z.clW hr (by decide) (pe_f F_worth_sum hr (by decide) (pa_cons (pv 0) (pa_cons (pv 1) (pa_cons (pe_un un_neg pe_int) pa_nil)))))))))
abbrev N_need_way : List Str := (["value"] : List Str)
theorem sc_need_way : FnScope N_need_way (["value"] : List Str) (defScope st_need_way) := ⟨rfl, rfl, rfl, by decide +kernel, rfl, by decide +kernel, by decide +kernel⟩
theorem w_need_way (Z : Bas K mg)  {f : Addr} {cdv : Value} {A : Around} {outer : List PySem.Env} {s : Shared} {H : Hp} {E : XK} (hr : Room 1 (A.deeper (envOfC "need_way" (defScope st_need_way) s.heap.objs.size f cdv))) :
    PSs (cxOf CX0 P w K mg base N_need_way "need_way" (defScope st_need_way) f cdv A outer s H E).nox (defBody st_need_way) (t_need_way w K) := by
  have nd : (N_need_way).Nodup := sc_need_way.nd
  exact (pss_one (ps_if (pt_cmpR op_notIn_seq (pv 0) (pe_glob rfl (Z.glo "WAYS") rfl) (by rfl)) (pss_one ps_never) pss_nil))
abbrev N_lift : List Str := (["way", "part", "negative", "odd", "ties"] : List Str)
theorem sc_lift : FnScope N_lift (["way", "part", "negative", "odd"] : List Str) (defScope st_lift) := ⟨rfl, rfl, rfl, by decide +kernel, rfl, by decide +kernel, by decide +kernel⟩
theorem w_lift (Z : Bas K mg)  {f : Addr} {cdv : Value} {A : Around} {outer : List PySem.Env} {s : Shared} {H : Hp} {E : XK} (hr : Room 1 (A.deeper (envOfC "lift" (defScope st_lift) s.heap.objs.size f cdv))) :
    PSs (cxOf CX0 P w K mg base N_lift "lift" (defScope st_lift) f cdv A outer s H E).nox (defBody st_lift) (t_lift w K) := by
  have nd : (N_lift).Nodup := sc_lift.nd
  exact (pss_cons (ps_if (PW.pt (pw_or (pt_cmpR op_eq (pv 1) pe_int (nomark _)) (pw_or1 (pt_cmpR op_eq (pv 0) pe_str (nomark _))))) (pss_one (ps_ret pe_int)) pss_nil)
    (pss_cons (ps_if (pt_cmpR op_eq (pv 0) pe_str (nomark _)) (pss_one (ps_ret pe_int)) pss_nil)
    (pss_cons (ps_if (pt_cmpR op_eq (pv 0) pe_str (nomark _)) (pss_one (ps_ret (pe_callTy call_int1 rfl (Z.free "int") boot_int (pa_cons (pv 2) pa_nil)))) pss_nil)
    (pss_cons (ps_if (pt_cmpR op_eq (pv 0) pe_str (nomark _)) (pss_one (ps_ret (pe_callTy call_int1 rfl (Z.free "int") boot_int (pa_cons (pe_not (pv 2)) pa_nil)))) pss_nil)
    (pss_cons (ps_if (pt_cmpR op_ne (pv 1) pe_int (nomark _)) (pss_one (ps_ret (pe_callTy call_int1 rfl (Z.free "int") boot_int (pa_cons (pe_cmpR op_eq (pv 1) pe_int (nomark _)) pa_nil)))) pss_nil)
    (pss_cons (ps_set (i := 4) nd rfl (Or.inl rfl) (pe_disp (pps_cons pe_str pe_bl (pps_cons pe_str pe_bl (pps_cons pe_str (pv 3) (pps_cons pe_str (pe_not (pv 2)) (pps_cons pe_str (pv 2) pps_nil))))) rfl rfl (by decide) (by decide)))
    (pss_one (ps_ret (pe_callTy call_int1 rfl (Z.free "int") boot_int (pa_cons (pe_dget (hu_of hr) (pv 4) (pv 0) (fun _ _ => rfl)) pa_nil))))))))))
abbrev N_part_of : List Str := (["left", "divisor"] : List Str)
theorem sc_part_of : FnScope N_part_of (["left", "divisor"] : List Str) (defScope st_part_of) := ⟨rfl, rfl, rfl, by decide +kernel, rfl, by decide +kernel, by decide +kernel⟩
theorem w_part_of (Z : Bas K mg)  {f : Addr} {cdv : Value} {A : Around} {outer : List PySem.Env} {s : Shared} {H : Hp} {E : XK} (hr : Room 1 (A.deeper (envOfC "part_of" (defScope st_part_of) s.heap.objs.size f cdv))) :
    PSs (cxOf CX0 P w K mg base N_part_of "part_of" (defScope st_part_of) f cdv A outer s H E).nox (defBody st_part_of) (t_part_of w K) := by
  have nd : (N_part_of).Nodup := sc_part_of.nd
  exact (pss_cons (ps_if (pt_cmpR op_eq (pv 0) pe_int (nomark _)) (pss_one (ps_ret pe_int)) pss_nil)
    (pss_one (ps_ret (pe_op op_sub (pe_op op_add pe_int (pe_callTy call_int1 rfl (Z.free "int") boot_int (pa_cons (pe_cmpR op_gt (pe_op op_mulW pe_int (pv 0)) (pv 1) (nomark _)) pa_nil))) (pe_callTy call_int1 rfl (Z.free "int") boot_int (pa_cons (pe_cmpR op_lt (pe_op op_mulW pe_int (pv 0)) (pv 1) (nomark _)) pa_nil))))))
abbrev N_divided_by : List Str := (["number", "divisor", "way", "low", "left"] : List Str)
theorem sc_divided_by : FnScope N_divided_by (["number", "divisor", "way"] : List Str) (defScope st_divided_by) := ⟨rfl, rfl, rfl, by decide +kernel, rfl, by decide +kernel, by decide +kernel⟩
theorem w_divided_by (Z : Bas K mg) (F_lift : Fct P w K mg base 2 "lift" (["way", "part", "negative", "odd"] : List Str) (sp_lift K)) (F_part_of : Fct P w K mg base 2 "part_of" (["left", "divisor"] : List Str) (sp_part_of K)) {f : Addr} {cdv : Value} {A : Around} {outer : List PySem.Env} {s : Shared} {H : Hp} {E : XK} (hr : Room 2 (A.deeper (envOfC "divided_by" (defScope st_divided_by) s.heap.objs.size f cdv))) :
    PSs (cxOf CX0 P w K mg base N_divided_by "divided_by" (defScope st_divided_by) f cdv A outer s H E).nox (defBody st_divided_by) (t_divided_by w K) := by
  have nd : (N_divided_by).Nodup := sc_divided_by.nd
  exact (pss_cons (ps_asg (pe_callB call_divmodW rfl (Z.free "divmod") boot_divmod (pa_cons (pv 0) (pa_cons (pv 1) pa_nil))) (pg_tup rfl (pgs_cons (pg_name (i := 3) nd rfl (Or.inl rfl)) (pgs_cons (pg_name (i := 4) nd rfl (Or.inl rfl)) pgs_nil))))
    (pss_one (ps_ret (pe_op op_add (pv 3) (pe_f F_lift hr (by decide) (pa_cons (pv 2) (pa_cons (pe_f F_part_of hr (by decide) (pa_cons (pv 4) (pa_cons (pv 1) pa_nil))) (pa_cons (pe_cmpR op_lt (pv 0) pe_int (nomark _)) (pa_cons (pe_cmpR op_eq (pe_op op_mod (pv 3) pe_int) pe_int (nomark _)) pa_nil)))))))))
abbrev N_is_entry : List Str := (["value"] : List Str)
theorem sc_is_entry : FnScope N_is_entry (["value"] : List Str) (defScope st_is_entry) := ⟨rfl, rfl, rfl, by decide +kernel, rfl, by decide +kernel, by decide +kernel⟩
theorem w_is_entry (Z : Bas K mg) (F_is_whole : Fct P w K mg base 3 "is_whole" (["value"] : List Str) (sp_is_whole K)) {f : Addr} {cdv : Value} {A : Around} {outer : List PySem.Env} {s : Shared} {H : Hp} {E : XK} (hr : Room 3 (A.deeper (envOfC "is_entry" (defScope st_is_entry) s.heap.objs.size f cdv))) :
    PSs (cxOf CX0 P w K mg base N_is_entry "is_entry" (defScope st_is_entry) f cdv A outer s H E).nox (defBody st_is_entry) (t_is_entry w K) := by
  have nd : (N_is_entry).Nodup := sc_is_entry.nd
  exact (pss_cons (ps_if (PW.pt (pw_or (pt_not (pt_val (pe_callB call_isiT rfl (Z.free "isinstance") boot_isinstance (pa_cons (pv 0) (pa_cons (pe_tup (pa_cons (pe_bltn rfl (Z.free "list") boot_list rfl) (pa_cons (pe_bltn rfl (Z.free "tuple") boot_tuple rfl) pa_nil))) pa_nil))))) (pw_or1 (pt_cmpR op_ne (pe_callB call_len_seq rfl (Z.free "len") boot_len (pa_cons (pv 0) pa_nil)) pe_int (nomark _))))) (pss_one (ps_ret pe_bl)) pss_nil)
    (pss_one (ps_ret (pe_and (pe_callB call_isi rfl (Z.free "isinstance") boot_isinstance (pa_cons (pe_ix ix_tup (pv 0) pe_int (fun _ _ => rfl)) (pa_cons (pe_glob rfl (Z.glo "Worth") rfl) pa_nil))) (pe_one (pe_f F_is_whole hr (by decide) (pa_cons (pe_ix ix_tup (pv 0) pe_int (fun _ _ => rfl)) pa_nil)))))))
abbrev N_need_entries : List Str := (["entries", "entry"] : List Str)
theorem sc_need_entries : FnScope N_need_entries (["entries"] : List Str) (defScope st_need_entries) := ⟨rfl, rfl, rfl, by decide +kernel, rfl, by decide +kernel, by decide +kernel⟩
theorem w_need_entries (Z : Bas K mg) (F_is_entry : Fct P w K mg base 4 "is_entry" (["value"] : List Str) (sp_is_entry K)) (F_need_items : Fct P w K mg base 2 "need_items" (["value"] : List Str) (sp_need_items K)) {f : Addr} {cdv : Value} {A : Around} {outer : List PySem.Env} {s : Shared} {H : Hp} {E : XK} (hr : Room 4 (A.deeper (envOfC "need_entries" (defScope st_need_entries) s.heap.objs.size f cdv))) :
    PSs (cxOf CX0 P w K mg base N_need_entries "need_entries" (defScope st_need_entries) f cdv A outer s H E).nox (defBody st_need_entries) (t_need_entries w K) := by
  have nd : (N_need_entries).Nodup := sc_need_entries.nd
  exact (pss_cons (ps_expr (pe_f F_need_items hr (by decide) (pa_cons (pv 0) pa_nil)))
    (pss_one (ps_for PassesOwn.never rfl (pi_list (pv 0)) (pg_name (i := 1) nd rfl (Or.inl rfl)) (pss_one (ps_if (pt_not (pt_val (pe_f F_is_entry hr (by decide) (pa_cons (pv 1) pa_nil)))) (pss_one ps_never) pss_nil)))))
abbrev N_need_asked : List Str := (["entries", "scale", "way"] : List Str)
theorem sc_need_asked : FnScope N_need_asked (["entries", "scale", "way"] : List Str) (defScope st_need_asked) := ⟨rfl, rfl, rfl, by decide +kernel, rfl, by decide +kernel, by decide +kernel⟩
theorem w_need_asked (Z : Bas K mg) (F_need_entries : Fct P w K mg base 5 "need_entries" (["entries"] : List Str) (sp_need_entries K)) (F_need_way : Fct P w K mg base 2 "need_way" (["value"] : List Str) (sp_need_way K)) (F_need_whole : Fct P w K mg base 4 "need_whole" (["value"] : List Str) (sp_need_whole K)) {f : Addr} {cdv : Value} {A : Around} {outer : List PySem.Env} {s : Shared} {H : Hp} {E : XK} (hr : Room 5 (A.deeper (envOfC "need_asked" (defScope st_need_asked) s.heap.objs.size f cdv))) :
    PSs (cxOf CX0 P w K mg base N_need_asked "need_asked" (defScope st_need_asked) f cdv A outer s H E).nox (defBody st_need_asked) (t_need_asked w K) := by
  have nd : (N_need_asked).Nodup := sc_need_asked.nd
  exact (pss_cons (ps_expr (pe_f F_need_entries hr (by decide) (pa_cons (pv 0) pa_nil)))
    (pss_cons (ps_expr (pe_f F_need_whole hr (by decide) (pa_cons (pv 1) pa_nil)))
    (pss_one (ps_expr (pe_f F_need_way hr (by decide) (pa_cons (pv 2) pa_nil))))))
abbrev N_in_parts : List Str := (["worth", "scale"] : List Str)
theorem sc_in_parts : FnScope N_in_parts (["worth", "scale"] : List Str) (defScope st_in_parts) := ⟨rfl, rfl, rfl, by decide +kernel, rfl, by decide +kernel, by decide +kernel⟩
theorem w_in_parts (Z : Bas K mg) (F_ten_to : Fct P w K mg base 2 "ten_to" (["number"] : List Str) (sp_ten_to K)) (M_Worth_units_at : Mtd P w K mg base 5 (cW K) "units_at" (["self", "scale"] : List Str) (sp_Worth_units_at K)) {f : Addr} {cdv : Value} {A : Around} {outer : List PySem.Env} {s : Shared} {H : Hp} {E : XK} (hr : Room 5 (A.deeper (envOfC "in_parts" (defScope st_in_parts) s.heap.objs.size f cdv))) :
    PSs (cxOf CX0 P w K mg base N_in_parts "in_parts" (defScope st_in_parts) f cdv A outer s H E).nox (defBody st_in_parts) (t_in_parts w K) := by
  have nd : (N_in_parts).Nodup := sc_in_parts.nd
  exact (pss_cons (ps_if (pt_cmpR op_le (pe_fld (pv 0) rfl) (pv 1) (nomark _)) (pss_one (ps_ret (pe_tup (pa_cons (pe_m M_Worth_units_at Z.clW hr (by decide) (pv 0) (pa_cons (pv 1) pa_nil)) (pa_cons pe_int pa_nil))))) pss_nil)
    (pss_one (ps_ret (pe_tup (pa_cons (pe_fld (pv 0) rfl) (pa_cons (pe_f F_ten_to hr (by decide) (pa_cons (pe_op op_sub (pe_fld (pv 0) rfl) (pv 1)) pa_nil)) pa_nil))))))
abbrev N_loose_parts : List Str := (["worth", "scale", "way", "number", "unit", "floor", "left", "loose"] : List Str)
theorem sc_loose_parts : FnScope N_loose_parts (["worth", "scale", "way"] : List Str) (defScope st_loose_parts) := ⟨rfl, rfl, rfl, by decide +kernel, rfl, by decide +kernel, by decide +kernel⟩
theorem w_loose_parts (Z : Bas K mg) (F_divided_by : Fct P w K mg base 3 "divided_by" (["number", "divisor", "way"] : List Str) (sp_divided_by K)) (F_in_parts : Fct P w K mg base 6 "in_parts" (["worth", "scale"] : List Str) (sp_in_parts K)) {f : Addr} {cdv : Value} {A : Around} {outer : List PySem.Env} {s : Shared} {H : Hp} {E : XK} (hr : Room 6 (A.deeper (envOfC "loose_parts" (defScope st_loose_parts) s.heap.objs.size f cdv))) :
    PSs (cxOf CX0 P w K mg base N_loose_parts "loose_parts" (defScope st_loose_parts) f cdv A outer s H E).nox (defBody st_loose_parts) (t_loose_parts w K) := by
  have nd : (N_loose_parts).Nodup := sc_loose_parts.nd
  exact (pss_cons (ps_asg (pe_f F_in_parts hr (by decide) (pa_cons (pv 0) (pa_cons (pv 1) pa_nil))) (pg_tup rfl (pgs_cons (pg_name (i := 3) nd rfl (Or.inl rfl)) (pgs_cons (pg_name (i := 4) nd rfl (Or.inl rfl)) pgs_nil))))
    (pss_cons (ps_asg (pe_callB call_divmodW rfl (Z.free "divmod") boot_divmod (pa_cons (pv 3) (pa_cons (pv 4) pa_nil))) (pg_tup rfl (pgs_cons (pg_name (i := 5) nd rfl (Or.inl rfl)) (pgs_cons (pg_name (i := 6) nd rfl (Or.inl rfl)) pgs_nil))))
    (pss_cons (ps_if (pt_cmpR op_in_seq (pv 2) (pe_tup (pa_cons pe_str (pa_cons pe_str pa_nil))) (by rfl)) (pss_one (ps_set (i := 7) nd rfl (Or.inl rfl) (pe_cmpR op_ne (pv 6) pe_int (nomark _)))) (pss_one (ps_set (i := 7) nd rfl (Or.inl rfl) (pe_and (pe_cmpR op_in_seq (pv 2) (pe_tup (pa_cons pe_str (pa_cons pe_str (pa_cons pe_str pa_nil)))) (by rfl)) (pe_one (pe_cmpR op_eq (pe_op op_mulW pe_int (pv 6)) (pv 4) (nomark _)))))))
    (pss_one (ps_ret (pe_tup (pa_cons (pv 7) (pa_cons (pe_ifExp (pt_val (pv 7)) (pv 5) (pe_f F_divided_by hr (by decide) (pa_cons (pv 3) (pa_cons (pv 4) (pa_cons (pv 2) pa_nil))))) pa_nil))))))))
abbrev N_added : List Str := (["state", "loose", "units", "way"] : List Str)
theorem sc_added : FnScope N_added (["state", "loose", "units", "way"] : List Str) (defScope st_added) := ⟨rfl, rfl, rfl, by decide +kernel, rfl, by decide +kernel, by decide +kernel⟩
theorem w_added (Z : Bas K mg)  {f : Addr} {cdv : Value} {A : Around} {outer : List PySem.Env} {s : Shared} {H : Hp} {E : XK} (hr : Room 1 (A.deeper (envOfC "added" (defScope st_added) s.heap.objs.size f cdv))) :
    PSs (cxOf CX0 P w K mg base N_added "added" (defScope st_added) f cdv A outer s H E).nox (defBody st_added) (t_added w K) := by
  have nd : (N_added).Nodup := sc_added.nd
  exact (pss_cons (ps_if (pt_not (pt_val (pv 1))) (pss_one (ps_ret (pe_op op_add (pv 0) (pv 2)))) pss_nil)
    (pss_cons (ps_if (pt_cmpR op_eq (pv 3) pe_str (nomark _)) (pss_one (ps_ret (pe_op op_add (pe_op op_add (pv 0) (pv 2)) (pe_op op_mod (pe_op op_add (pv 0) (pv 2)) pe_int)))) pss_nil)
    (pss_one (ps_ret (pe_op op_add (pe_op op_add (pv 0) (pv 2)) (pe_callTy call_int1 rfl (Z.free "int") boot_int (pa_cons (pe_cmpR op_eq (pe_cmpR op_lt (pe_op op_add (pv 0) (pv 2)) pe_int (nomark _)) (pe_cmpR op_in_seq (pv 3) (pe_glob rfl (Z.glo "LOWERING") rfl) (by rfl)) (nomark _)) pa_nil)))))))
abbrev N_added_often : List Str := (["state", "units", "times", "way", "gap", "step", "other", "turns"] : List Str)
theorem sc_added_often : FnScope N_added_often (["state", "units", "times", "way"] : List Str) (defScope st_added_often) := ⟨rfl, rfl, rfl, by decide +kernel, rfl, by decide +kernel, by decide +kernel⟩
theorem w_added_often (Z : Bas K mg) (F_added : Fct P w K mg base 2 "added" (["state", "loose", "units", "way"] : List Str) (sp_added K)) {f : Addr} {cdv : Value} {A : Around} {outer : List PySem.Env} {s : Shared} {H : Hp} {E : XK} (hr : Room 2 (A.deeper (envOfC "added_often" (defScope st_added_often) s.heap.objs.size f cdv))) :
    PSs (cxOf CX0 P w K mg base N_added_often "added_often" (defScope st_added_often) f cdv A outer s H E).nox (defBody st_added_often) (t_added_often w K) := by
  have nd : (N_added_often).Nodup := sc_added_often.nd
  exact (pss_cons (ps_if (pt_cmpR op_eq (pv 3) pe_str (nomark _)) (pss_one (ps_ret (pe_op op_add (pe_f F_added hr (by decide) (pa_cons (pv 0) (pa_cons pe_bl (pa_cons (pv 1) (pa_cons (pv 3) pa_nil))))) (pe_op op_mulW (pe_op op_sub (pv 2) pe_int) (pe_op op_add (pv 1) (pe_op op_mod (pv 1) pe_int)))))) pss_nil)
    (pss_cons (ps_set (i := 4) nd rfl (Or.inl rfl) (pe_op op_add (pv 0) (pv 1)))
    (pss_cons (ps_set (i := 5) nd rfl (Or.inl rfl) (pe_op op_sub (pe_f F_added hr (by decide) (pa_cons (pv 0) (pa_cons pe_bl (pa_cons (pv 1) (pa_cons (pv 3) pa_nil))))) (pv 0)))
    (pss_cons (ps_par (i := 6) (j := 7) rfl nd rfl rfl (by decide) rfl rfl (pa_cons (pe_op op_sub (pe_op op_add (pe_op op_mulW pe_int (pv 1)) pe_int) (pv 5)) (pa_cons (pv 2) pa_nil)) rfl)
    (pss_cons (ps_if (PW.pt (pw_and (pt_cmpR op_ge (pv 4) pe_int (nomark _)) (pw_and1 (pt_cmpR op_lt (pv 5) pe_int (nomark _))))) (pss_one (ps_set (i := 7) nd rfl (Or.inl rfl) (pe_callB (call_min2 rfl) rfl (Z.free "min") boot_min (pa_cons (pv 2) (pa_cons (pe_op op_add (pe_op op_fdivW (pv 4) (pe_un un_neg (pv 5))) pe_int) pa_nil))))) pss_nil)
    (pss_cons (ps_if (PW.pt (pw_and (pt_cmpR op_lt (pv 4) pe_int (nomark _)) (pw_and1 (pt_cmpR op_gt (pv 5) pe_int (nomark _))))) (pss_one (ps_set (i := 7) nd rfl (Or.inl rfl) (pe_callB (call_min2 rfl) rfl (Z.free "min") boot_min (pa_cons (pv 2) (pa_cons (pe_op op_fdivW (pe_op op_sub (pe_op op_sub (pv 5) pe_int) (pv 4)) (pv 5)) pa_nil))))) pss_nil)
    (pss_one (ps_ret (pe_op op_add (pe_op op_add (pv 0) (pe_op op_mulW (pv 7) (pv 5))) (pe_op op_mulW (pe_op op_sub (pv 2) (pv 7)) (pv 6)))))))))))
abbrev N_running_units : List Str := (["entries", "scale", "way", "state", "worth", "times", "loose", "units"] : List Str)
theorem sc_running_units : FnScope N_running_units (["entries", "scale", "way"] : List Str) (defScope st_running_units) := ⟨rfl, rfl, rfl, by decide +kernel, rfl, by decide +kernel, by decide +kernel⟩
theorem w_running_units (Z : Bas K mg) (F_added_often : Fct P w K mg base 3 "added_often" (["state", "units", "times", "way"] : List Str) (sp_added_often K)) (F_loose_parts : Fct P w K mg base 7 "loose_parts" (["worth", "scale", "way"] : List Str) (sp_loose_parts K)) {f : Addr} {cdv : Value} {A : Around} {outer : List PySem.Env} {s : Shared} {H : Hp} {E : XK} (hr : Room 7 (A.deeper (envOfC "running_units" (defScope st_running_units) s.heap.objs.size f cdv))) :
    PSs (cxOf CX0 P w K mg base N_running_units "running_units" (defScope st_running_units) f cdv A outer s H E).nox (defBody st_running_units) (t_running_units w K) := by
  have nd : (N_running_units).Nodup := sc_running_units.nd
  exact (pss_cons (ps_set (i := 3) nd rfl (Or.inl rfl) pe_int)
    (pss_cons (ps_for PassesOwn.never rfl (pi_list (pv 0)) (pg_tup rfl (pgs_cons (pg_name (i := 4) nd rfl (Or.inl rfl)) (pgs_cons (pg_name (i := 5) nd rfl (Or.inl rfl)) pgs_nil))) (pss_cons (ps_asg (pe_f F_loose_parts hr (by decide) (pa_cons (pv 4) (pa_cons (pv 1) (pa_cons (pv 2) pa_nil)))) (pg_tup rfl (pgs_cons (pg_name (i := 6) nd rfl (Or.inl rfl)) (pgs_cons (pg_name (i := 7) nd rfl (Or.inl rfl)) pgs_nil))))
    (pss_one (ps_if (pt_not (pt_val (pv 6))) (pss_one (ps_aug (i := 3) nd rfl (Or.inl rfl) (pe_op op_mulW (pv 5) (pv 7)) ip_add)) (pss_one (ps_if (pt_cmpR op_gt (pv 5) pe_int (nomark _)) (pss_one (ps_set (i := 3) nd rfl (Or.inl rfl) (pe_f F_added_often hr (by decide) (pa_cons (pv 3) (pa_cons (pv 7) (pa_cons (pv 5) (pa_cons (pv 2) pa_nil))))))) pss_nil))))))
    (pss_one (ps_ret (pv 3)))))
end
end KX
/-! The derivations. Printed by gen.py. -/
namespace KX
open PySem PySem.Spec PyProof.Rows L2
section
variable {P : Program} {w : World} {K : PySem.W.Frag} {mg : Str → Option Value} {base : Heap}
abbrev N_free_entries : List Str := (["entries", "scale", "way", "there", "signs", "worth", "times"] : List Str)
theorem sc_free_entries : FnScope N_free_entries (["entries", "scale", "way"] : List Str) (defScope st_free_entries) := ⟨rfl, rfl, rfl, by decide +kernel, rfl, by decide +kernel, by decide +kernel⟩
theorem w_free_entries (Z : Bas K mg) (F_loose_parts : Fct P w K mg base 7 "loose_parts" (["worth", "scale", "way"] : List Str) (sp_loose_parts K)) (M_Worth_sign : Mtd P w K mg base 2 (cW K) "sign" (["self"] : List Str) (sp_Worth_sign K)) {f : Addr} {cdv : Value} {A : Around} {outer : List PySem.Env} {s : Shared} {H : Hp} {E : XK} (hr : Room 7 (A.deeper (envOfC "free_entries" (defScope st_free_entries) s.heap.objs.size f cdv))) :
    PSs (cxOf CX0 P w K mg base N_free_entries "free_entries" (defScope st_free_entries) f cdv A outer s H E).nox (defBody st_free_entries) (t_free_entries w K) := by
  have nd : (N_free_entries).Nodup := sc_free_entries.nd
  exact (pss_cons (ps_setLc (i := 3) (own := [("worth", 5), ("times", 6)]) (g := (gTup K 2 (gCons (gName 5) (gCons (gName 6) gNil)))) (tt := (tTest (tOp rGt (tVar 6) (tC (.int 0))))) rfl nd rfl rfl (sw_true rfl rfl rfl (by decide +kernel)) (pi_list (pv 0)) (blkOk_by (own := [("worth", 5), ("times", 6)]) (N := N_free_entries) (sc := (defScope st_free_entries)) (by decide +kernel)) (fun _ _ _ _ _ => (pg_tup rfl (pgs_cons (pg_name (i := 5) nd rfl (Or.inl rfl)) (pgs_cons (pg_name (i := 6) nd rfl (Or.inl rfl)) pgs_nil)))) (fun _ _ _ _ _ => (pts_one (pt_cmpR op_gt (pv 6) pe_int (nomark _)))) (fun _ _ _ _ _ => (pv 5)))
    (pss_cons (ps_if (pt_not (pt_val (pe_callB (cr_any rfl) rfl (Z.free "any") boot_any (pa_cons (pe_lc (own := [("worth", 5)]) (g := (gName 5)) (tt := tYes) rfl nd (pi_list (pv 3)) (blkOk_by (own := [("worth", 5)]) (N := N_free_entries) (sc := (defScope st_free_entries)) (by decide +kernel)) (fun _ _ _ _ _ => (pg_name (i := 5) nd rfl (Or.inl rfl))) (fun _ _ _ _ _ => pts_nil) (fun _ _ _ _ _ => (pe_ix ix_tup (pe_f F_loose_parts hr (by decide) (pa_cons (pv 5) (pa_cons (pv 1) (pa_cons (pv 2) pa_nil)))) pe_int (fun _ _ => rfl)))) pa_nil)))) (pss_one (ps_ret pe_bl)) pss_nil)
    (pss_cons (ps_setLc (i := 4) (own := [("worth", 5)]) (g := (gName 5)) (tt := tYes) rfl nd rfl rfl (sw_true rfl rfl rfl (by decide +kernel)) (pi_list (pv 3)) (blkOk_by (own := [("worth", 5)]) (N := N_free_entries) (sc := (defScope st_free_entries)) (by decide +kernel)) (fun _ _ _ _ _ => (pg_name (i := 5) nd rfl (Or.inl rfl))) (fun _ _ _ _ _ => pts_nil) (fun _ _ _ _ _ => (pe_m0 M_Worth_sign Z.clW hr (by decide) (pv 5))))
    (pss_one (ps_ret (pe_and (pe_cmpR op_in_seq (pv 2) (pe_glob rfl (Z.glo "SIDED") rfl) (by rfl)) (pe_one (pe_or (pe_cmpR op_ge (pe_callB (cr_min rfl) rfl (Z.free "min") boot_min (pa_cons (pv 4) pa_nil)) pe_int (nomark _)) (pe_one (pe_cmpR op_le (pe_callB (cr_max rfl) rfl (Z.free "max") boot_max (pa_cons (pv 4) pa_nil)) pe_int (nomark _)))))))))))
abbrev N_single_total : List Str := (["entries", "scale", "way", "total", "worth", "times", "number", "unit"] : List Str)
theorem sc_single_total : FnScope N_single_total (["entries", "scale", "way"] : List Str) (defScope st_single_total) := ⟨rfl, rfl, rfl, by decide +kernel, rfl, by decide +kernel, by decide +kernel⟩
theorem w_single_total (Z : Bas K mg) (F_divided_by : Fct P w K mg base 3 "divided_by" (["number", "divisor", "way"] : List Str) (sp_divided_by K)) (F_in_parts : Fct P w K mg base 6 "in_parts" (["worth", "scale"] : List Str) (sp_in_parts K)) (F_need_asked : Fct P w K mg base 6 "need_asked" (["entries", "scale", "way"] : List Str) (sp_need_asked K)) (MkW : MkrW P w K mg base 5) {f : Addr} {cdv : Value} {A : Around} {outer : List PySem.Env} {s : Shared} {H : Hp} {E : XK} (hr : Room 6 (A.deeper (envOfC "single_total" (defScope st_single_total) s.heap.objs.size f cdv))) :
    PSs (cxOf CX0 P w K mg base N_single_total "single_total" (defScope st_single_total) f cdv A outer s H E).nox (defBody st_single_total) (t_single_total w K) := by
  have nd : (N_single_total).Nodup := sc_single_total.nd
  exact (pss_cons (ps_expr (pe_f F_need_asked hr (by decide) (pa_cons (pv 0) (pa_cons (pv 1) (pa_cons (pv 2) pa_nil)))))
    (pss_cons (ps_set (i := 3) nd rfl (Or.inl rfl) pe_int)
    (pss_cons (ps_for PassesOwn.never rfl (pi_list (pv 0)) (pg_tup rfl (pgs_cons (pg_name (i := 4) nd rfl (Or.inl rfl)) (pgs_cons (pg_name (i := 5) nd rfl (Or.inl rfl)) pgs_nil))) (pss_cons (ps_asg (pe_f F_in_parts hr (by decide) (pa_cons (pv 4) (pa_cons (pv 1) pa_nil))) (pg_tup rfl (pgs_cons (pg_name (i := 6) nd rfl (Or.inl rfl)) (pgs_cons (pg_name (i := 7) nd rfl (Or.inl rfl)) pgs_nil))))
    (pss_one (ps_aug (i := 3) nd rfl (Or.inl rfl) (pe_op op_mulW (pv 5) (pe_f F_divided_by hr (by decide) (pa_cons (pv 6) (pa_cons (pv 7) (pa_cons (pv 2) pa_nil))))) ip_add))))
    (pss_one (ps_ret (pe_mkW MkW hr (by decide) (pa_cons (pv 3) (pa_cons (pv 1) pa_nil))))))))
abbrev N_running_total : List Str := (["entries", "scale", "way"] : List Str)
theorem sc_running_total : FnScope N_running_total (["entries", "scale", "way"] : List Str) (defScope st_running_total) := ⟨rfl, rfl, rfl, by decide +kernel, rfl, by decide +kernel, by decide +kernel⟩
theorem w_running_total (Z : Bas K mg) (F_need_asked : Fct P w K mg base 6 "need_asked" (["entries", "scale", "way"] : List Str) (sp_need_asked K)) (F_running_units : Fct P w K mg base 8 "running_units" (["entries", "scale", "way"] : List Str) (sp_running_units K)) (MkW : MkrW P w K mg base 5) {f : Addr} {cdv : Value} {A : Around} {outer : List PySem.Env} {s : Shared} {H : Hp} {E : XK} (hr : Room 8 (A.deeper (envOfC "running_total" (defScope st_running_total) s.heap.objs.size f cdv))) :
    PSs (cxOf CX0 P w K mg base N_running_total "running_total" (defScope st_running_total) f cdv A outer s H E).nox (defBody st_running_total) (t_running_total w K) := by
  have nd : (N_running_total).Nodup := sc_running_total.nd
  exact (pss_cons (ps_expr (pe_f F_need_asked hr (by decide) (pa_cons (pv 0) (pa_cons (pv 1) (pa_cons (pv 2) pa_nil)))))
    (pss_one (ps_ret (pe_mkW MkW hr (by decide) (pa_cons (pe_f F_running_units hr (by decide) (pa_cons (pv 0) (pa_cons (pv 1) (pa_cons (pv 2) pa_nil)))) (pa_cons (pv 1) pa_nil))))))
abbrev N_is_free : List Str := (["entries", "scale", "way"] : List Str)
theorem sc_is_free : FnScope N_is_free (["entries", "scale", "way"] : List Str) (defScope st_is_free) := ⟨rfl, rfl, rfl, by decide +kernel, rfl, by decide +kernel, by decide +kernel⟩
theorem w_is_free (Z : Bas K mg) (F_free_entries : Fct P w K mg base 8 "free_entries" (["entries", "scale", "way"] : List Str) (sp_free_entries K)) (F_need_asked : Fct P w K mg base 6 "need_asked" (["entries", "scale", "way"] : List Str) (sp_need_asked K)) {f : Addr} {cdv : Value} {A : Around} {outer : List PySem.Env} {s : Shared} {H : Hp} {E : XK} (hr : Room 8 (A.deeper (envOfC "is_free" (defScope st_is_free) s.heap.objs.size f cdv))) :
    PSs (cxOf CX0 P w K mg base N_is_free "is_free" (defScope st_is_free) f cdv A outer s H E).nox (defBody st_is_free) (t_is_free w K) := by
  have nd : (N_is_free).Nodup := sc_is_free.nd
  exact (pss_cons (ps_expr (pe_f F_need_asked hr (by decide) (pa_cons (pv 0) (pa_cons (pv 1) (pa_cons (pv 2) pa_nil)))))
    (pss_one (ps_ret (pe_f F_free_entries hr (by decide) (pa_cons (pv 0) (pa_cons (pv 1) (pa_cons (pv 2) pa_nil)))))))
abbrev N_even_ends : List Str := (["entries", "scale", "base", "even", "odd", "turns", "worth", "times", "loose", "units"] : List Str)
theorem sc_even_ends : FnScope N_even_ends (["entries", "scale"] : List Str) (defScope st_even_ends) := ⟨rfl, rfl, rfl, by decide +kernel, rfl, by decide +kernel, by decide +kernel⟩
theorem w_even_ends (Z : Bas K mg) (F_loose_parts : Fct P w K mg base 7 "loose_parts" (["worth", "scale", "way"] : List Str) (sp_loose_parts K)) {f : Addr} {cdv : Value} {A : Around} {outer : List PySem.Env} {s : Shared} {H : Hp} {E : XK} (hr : Room 7 (A.deeper (envOfC "even_ends" (defScope st_even_ends) s.heap.objs.size f cdv))) :
    PSs (cxOf CX0 P w K mg base N_even_ends "even_ends" (defScope st_even_ends) f cdv A outer s H E).nox (defBody st_even_ends) (t_even_ends w K) := by
  have nd : (N_even_ends).Nodup := sc_even_ends.nd
  exact (pss_cons (ps_asg (pe_tup (pa_cons pe_int (pa_cons pe_int (pa_cons pe_int (pa_cons pe_int pa_nil))))) (pg_tup rfl (pgs_cons (pg_name (i := 2) nd rfl (Or.inl rfl)) (pgs_cons (pg_name (i := 3) nd rfl (Or.inl rfl)) (pgs_cons (pg_name (i := 4) nd rfl (Or.inl rfl)) (pgs_cons (pg_name (i := 5) nd rfl (Or.inl rfl)) pgs_nil))))))
    (pss_cons (ps_for PassesOwn.never rfl (pi_list (pv 0)) (pg_tup rfl (pgs_cons (pg_name (i := 6) nd rfl (Or.inl rfl)) (pgs_cons (pg_name (i := 7) nd rfl (Or.inl rfl)) pgs_nil))) (pss_cons (ps_asg (pe_f F_loose_parts hr (by decide) (pa_cons (pv 6) (pa_cons (pv 1) (pa_cons pe_str pa_nil)))) (pg_tup rfl (pgs_cons (pg_name (i := 8) nd rfl (Or.inl rfl)) (pgs_cons (pg_name (i := 9) nd rfl (Or.inl rfl)) pgs_nil))))
    (pss_cons (ps_aug (i := 2) nd rfl (Or.inl rfl) (pe_op op_mulW (pv 7) (pv 9)) ip_add)
    (pss_one (ps_if (pt_not (pt_val (pv 8))) (pss_one (ps_aug (i := 5) nd rfl (Or.inl rfl) (pe_op op_mulW (pv 7) (pe_op op_mod (pv 9) pe_int)) ip_add)) (pss_one (ps_if (pt_cmpR op_eq (pe_op op_mod (pv 9) pe_int) pe_int (nomark _)) (pss_one (ps_aug (i := 3) nd rfl (Or.inl rfl) (pv 7) ip_add)) (pss_one (ps_aug (i := 4) nd rfl (Or.inl rfl) (pv 7) ip_add)))))))))
    (pss_one (ps_ret (pe_tup (pa_cons (pe_op op_sub (pe_op op_add (pv 2) (pv 4)) (pe_callB (call_min2 rfl) rfl (Z.free "min") boot_min (pa_cons (pv 4) (pa_cons (pv 5) pa_nil)))) (pa_cons (pe_op op_add (pe_op op_add (pv 2) (pv 4)) (pe_callB (call_min2 rfl) rfl (Z.free "min") boot_min (pa_cons (pv 3) (pa_cons (pv 5) pa_nil)))) pa_nil)))))))
abbrev N_sided_top : List Str := (["entries", "scale", "way", "ahead", "total", "room", "costs", "worth", "times", "loose", "units", "cost", "most"] : List Str)
theorem sc_sided_top : FnScope N_sided_top (["entries", "scale", "way"] : List Str) (defScope st_sided_top) := ⟨rfl, rfl, rfl, by decide +kernel, rfl, by decide +kernel, by decide +kernel⟩
theorem w_sided_top (Z : Bas K mg) (F_loose_parts : Fct P w K mg base 7 "loose_parts" (["worth", "scale", "way"] : List Str) (sp_loose_parts K)) (M_Worth_sign : Mtd P w K mg base 2 (cW K) "sign" (["self"] : List Str) (sp_Worth_sign K)) {f : Addr} {cdv : Value} {A : Around} {outer : List PySem.Env} {s : Shared} {H : Hp} {E : XK} (hr : Room 7 (A.deeper (envOfC "sided_top" (defScope st_sided_top) s.heap.objs.size f cdv))) :
    PSs (cxOf CX0 P w K mg base N_sided_top "sided_top" (defScope st_sided_top) f cdv A outer s H E).nox (defBody st_sided_top) (t_sided_top w K) := by
  have nd : (N_sided_top).Nodup := sc_sided_top.nd
  exact (pss_cons (ps_set (i := 3) nd rfl (Or.inl rfl) (pe_ifExp (pt_cmpR op_in_seq (pv 2) (pe_glob rfl (Z.glo "LOWERING") rfl) (by rfl)) (pe_un un_neg pe_int) pe_int))
    (pss_cons (ps_par3 (i := 4) (j := 5) (l := 6) rfl nd rfl rfl rfl (by decide) (by decide) (by decide) rfl rfl rfl (pa_cons pe_int (pa_cons (pe_un un_neg (pe_callTy call_int1 rfl (Z.free "int") boot_int (pa_cons (pe_cmpR op_eq (pv 3) pe_int (nomark _)) pa_nil))) (pa_cons (pe_lst pa_nil) pa_nil))) rfl)
    (pss_cons (ps_for PassesOwn.never rfl (pi_list (pv 0)) (pg_tup rfl (pgs_cons (pg_name (i := 7) nd rfl (Or.inl rfl)) (pgs_cons (pg_name (i := 8) nd rfl (Or.inl rfl)) pgs_nil))) (pss_cons (ps_asg (pe_f F_loose_parts hr (by decide) (pa_cons (pv 7) (pa_cons (pv 1) (pa_cons (pv 2) pa_nil)))) (pg_tup rfl (pgs_cons (pg_name (i := 9) nd rfl (Or.inl rfl)) (pgs_cons (pg_name (i := 10) nd rfl (Or.inl rfl)) pgs_nil))))
    (pss_cons (ps_aug (i := 4) nd rfl (Or.inl rfl) (pe_op op_mulW (pv 8) (pv 10)) ip_add)
    (pss_one (ps_if (pt_cmpR op_eq (pe_m0 M_Worth_sign Z.clW hr (by decide) (pv 7)) (pv 3) (nomark _)) (pss_cons (ps_aug (i := 4) nd rfl (Or.inl rfl) (pe_op op_mulW (pv 8) (pe_callTy call_int1 rfl (Z.free "int") boot_int (pa_cons (pv 9) pa_nil))) ip_add)
    (pss_one (ps_aug (i := 5) nd rfl (Or.inl rfl) (pe_op op_mulW (pv 8) (pe_callB call_abs rfl (Z.free "abs") boot_abs (pa_cons (pe_op op_add (pv 10) (pe_callTy call_int1 rfl (Z.free "int") boot_int (pa_cons (pv 9) pa_nil))) pa_nil))) ip_add))) (pss_one (ps_if (pt_val (pv 9)) (pss_one (ps_expr (pe_bm PySem.F.plainAttrs_list PySem.F.slot_list_append PySem.F.type_list_append mt_append (pv 6) (pa_cons (pe_tup (pa_cons (pe_callB call_abs rfl (Z.free "abs") boot_abs (pa_cons (pe_op op_add (pv 10) pe_int) pa_nil)) (pa_cons (pv 8) pa_nil))) pa_nil)))) pss_nil)))))))
    (pss_cons (ps_if (pt_cmpR op_lt (pv 5) pe_int (nomark _)) (pss_one (ps_ret (pv 4))) pss_nil)
    (pss_cons (ps_for PassesOwn.never rfl (pi_list (pe_callB (cr_sortT (hu4 hr)) rfl (Z.free "sorted") boot_sorted (pa_cons (pv 6) pa_nil))) (pg_tup rfl (pgs_cons (pg_name (i := 11) nd rfl (Or.inl rfl)) (pgs_cons (pg_name (i := 8) nd rfl (Or.inl rfl)) pgs_nil))) (pss_cons (ps_set (i := 12) nd rfl (Or.inl rfl) (pe_ifExp (pt_cmpR op_eq (pv 11) pe_int (nomark _)) (pv 8) (pe_callB (call_min2 rfl) rfl (Z.free "min") boot_min (pa_cons (pv 8) (pa_cons (pe_op op_fdivW (pv 5) (pv 11)) pa_nil)))))
    (pss_one (ps_par (i := 4) (j := 5) rfl nd rfl rfl (by decide) rfl rfl (pa_cons (pe_op op_add (pv 4) (pv 12)) (pa_cons (pe_op op_sub (pv 5) (pe_op op_mulW (pv 12) (pv 11))) pa_nil)) rfl))))
    (pss_one (ps_ret (pv 4))))))))
abbrev N_order_range : List Str := (["entries", "scale", "way", "low", "high", "worth", "times"] : List Str)
theorem sc_order_range : FnScope N_order_range (["entries", "scale", "way"] : List Str) (defScope st_order_range) := ⟨rfl, rfl, rfl, by decide +kernel, rfl, by decide +kernel, by decide +kernel⟩
theorem w_order_range (Z : Bas K mg) (F_even_ends : Fct P w K mg base 8 "even_ends" (["entries", "scale"] : List Str) (sp_even_ends K)) (F_need_asked : Fct P w K mg base 6 "need_asked" (["entries", "scale", "way"] : List Str) (sp_need_asked K)) (F_running_units : Fct P w K mg base 8 "running_units" (["entries", "scale", "way"] : List Str) (sp_running_units K)) (F_sided_top : Fct P w K mg base 8 "sided_top" (["entries", "scale", "way"] : List Str) (sp_sided_top K)) (MkW : MkrW P w K mg base 5) (Mneg : Mtd P w K mg base 7 (cW K) "__neg__" (["self"] : List Str) (spNegW K)) {f : Addr} {cdv : Value} {A : Around} {outer : List PySem.Env} {s : Shared} {H : Hp} {E : XK} (hr : Room 8 (A.deeper (envOfC "order_range" (defScope st_order_range) s.heap.objs.size f cdv))) :
    PSs (cxOf CX0 P w K mg base N_order_range "order_range" (defScope st_order_range) f cdv A outer s H E).nox (defBody st_order_range) (t_order_range w K) := by
  have nd : (N_order_range).Nodup := sc_order_range.nd
  exact (pss_cons (ps_expr (pe_f F_need_asked hr (by decide) (pa_cons (pv 0) (pa_cons (pv 1) (pa_cons (pv 2) pa_nil)))))
    (pss_cons (ps_if (pt_cmpR op_eq (pv 2) pe_str (nomark _)) (pss_one (ps_asg (pe_f F_even_ends hr (by decide) (pa_cons (pv 0) (pa_cons (pv 1) pa_nil))) (pg_tup rfl (pgs_cons (pg_name (i := 3) nd rfl (Or.inl rfl)) (pgs_cons (pg_name (i := 4) nd rfl (Or.inl rfl)) pgs_nil))))) (pss_one (ps_if (pt_cmpR op_in_seq (pv 2) (pe_glob rfl (Z.glo "SIDED") rfl) (by rfl)) (pss_cons (ps_set (i := 3) nd rfl (Or.inl rfl) (pe_un un_neg (pe_f F_sided_top hr (by decide) (pa_cons (pe_lc (own := [("worth", 5), ("times", 6)]) (g := (gTup K 2 (gCons (gName 5) (gCons (gName 6) gNil)))) (tt := tYes) rfl nd (pi_list (pv 0)) (blkOk_by (own := [("worth", 5), ("times", 6)]) (N := N_order_range) (sc := (defScope st_order_range)) (by decide +kernel)) (fun _ _ _ _ _ => (pg_tup rfl (pgs_cons (pg_name (i := 5) nd rfl (Or.inl rfl)) (pgs_cons (pg_name (i := 6) nd rfl (Or.inl rfl)) pgs_nil)))) (fun _ _ _ _ _ => pts_nil) (fun _ _ _ _ _ => (pe_tup (pa_cons (pe_un (un_negW Mneg hr (by decide)) (pv 5)) (pa_cons (pv 6) pa_nil))))) (pa_cons (pv 1) (pa_cons (pv 2) pa_nil))))))
    (pss_one (ps_set (i := 4) nd rfl (Or.inl rfl) (pe_f F_sided_top hr (by decide) (pa_cons (pv 0) (pa_cons (pv 1) (pa_cons (pv 2) pa_nil))))))) (pss_cons (ps_set (i := 3) nd rfl (Or.inl rfl) (pe_f F_running_units hr (by decide) (pa_cons (pv 0) (pa_cons (pv 1) (pa_cons (pv 2) pa_nil)))))
    (pss_one (ps_set (i := 4) nd rfl (Or.inl rfl) (pv 3)))))))
    (pss_one (ps_ret (pe_tup (pa_cons (pe_mkW MkW hr (by decide) (pa_cons (pv 3) (pa_cons (pv 1) pa_nil))) (pa_cons (pe_mkW MkW hr (by decide) (pa_cons (pv 4) (pa_cons (pv 1) pa_nil))) pa_nil)))))))
abbrev N_even_runs : List Str := (["entries", "scale", "base", "runs", "worth", "times", "loose", "units"] : List Str)
theorem sc_even_runs : FnScope N_even_runs (["entries", "scale"] : List Str) (defScope st_even_runs) := ⟨rfl, rfl, rfl, by decide +kernel, rfl, by decide +kernel, by decide +kernel⟩
theorem w_even_runs (Z : Bas K mg) (F_loose_parts : Fct P w K mg base 7 "loose_parts" (["worth", "scale", "way"] : List Str) (sp_loose_parts K)) {f : Addr} {cdv : Value} {A : Around} {outer : List PySem.Env} {s : Shared} {H : Hp} {E : XK} (hr : Room 7 (A.deeper (envOfC "even_runs" (defScope st_even_runs) s.heap.objs.size f cdv))) :
    PSs (cxOf CX0 P w K mg base N_even_runs "even_runs" (defScope st_even_runs) f cdv A outer s H E).nox (defBody st_even_runs) (t_even_runs w K) := by
  have nd : (N_even_runs).Nodup := sc_even_runs.nd
  exact (pss_cons (ps_par (i := 2) (j := 3) rfl nd rfl rfl (by decide) rfl rfl (pa_cons pe_int (pa_cons (pe_lst pa_nil) pa_nil)) rfl)
    (pss_cons (ps_for PassesOwn.never rfl (pi_list (pv 0)) (pg_tup rfl (pgs_cons (pg_name (i := 4) nd rfl (Or.inl rfl)) (pgs_cons (pg_name (i := 5) nd rfl (Or.inl rfl)) pgs_nil))) (pss_cons (ps_asg (pe_f F_loose_parts hr (by decide) (pa_cons (pv 4) (pa_cons (pv 1) (pa_cons pe_str pa_nil)))) (pg_tup rfl (pgs_cons (pg_name (i := 6) nd rfl (Or.inl rfl)) (pgs_cons (pg_name (i := 7) nd rfl (Or.inl rfl)) pgs_nil))))
    (pss_cons (ps_aug (i := 2) nd rfl (Or.inl rfl) (pe_op op_mulW (pv 5) (pv 7)) ip_add)
    (pss_one (ps_if (PW.pt (pw_and (pt_val (pv 6)) (pw_and1 (pt_cmpR op_gt (pv 5) pe_int (nomark _))))) (pss_cons (ps_aug (i := 2) nd rfl (Or.inl rfl) (pe_op op_mulW (pv 5) (pe_op op_mod (pv 7) pe_int)) ip_add)
    (pss_one (ps_expr (pe_bm PySem.F.plainAttrs_list PySem.F.slot_list_append PySem.F.type_list_append mt_append (pv 3) (pa_cons (pe_tup (pa_cons (pe_ifExp (pt_cmpR op_eq (pe_op op_mod (pv 7) pe_int) pe_int (nomark _)) pe_str pe_str) (pa_cons (pv 5) pa_nil))) pa_nil))))) (pss_one (ps_if (PW.pt (pw_and (pt_cmpR op_eq (pe_op op_mod (pv 7) pe_int) pe_int (nomark _)) (pw_and1 (pt_cmpR op_gt (pv 5) pe_int (nomark _))))) (pss_one (ps_if (PW.pt (pw_and (pt_truth (pv 3) (fun _ => rfl)) (pw_and1 (pt_cmpR op_eq (pe_ix ix_tup (pe_ix ix_list (pv 3) (pe_un un_neg pe_int) (fun _ _ => rfl)) pe_int (fun _ _ => rfl)) pe_str (nomark _))))) (pss_one (ps_asg (pe_tup (pa_cons pe_str (pa_cons (pe_op op_add (pe_ix ix_tup (pe_ix ix_list (pv 3) (pe_un un_neg pe_int) (fun _ _ => rfl)) pe_int (fun _ _ => rfl)) (pv 5)) pa_nil))) (pg_sub (pv 3) (pe_un un_neg pe_int) set_list))) (pss_one (ps_expr (pe_bm PySem.F.plainAttrs_list PySem.F.slot_list_append PySem.F.type_list_append mt_append (pv 3) (pa_cons (pe_tup (pa_cons pe_str (pa_cons (pv 5) pa_nil))) pa_nil)))))) pss_nil)))))))
    (pss_one (ps_ret (pe_tup (pa_cons (pv 2) (pa_cons (pv 3) pa_nil)))))))
abbrev N_odd_houses : List Str := (["odd", "times", "houses", "avoids", "most"] : List Str)
theorem sc_odd_houses : FnScope N_odd_houses (["odd", "times", "houses", "avoids"] : List Str) (defScope st_odd_houses) := ⟨rfl, rfl, rfl, by decide +kernel, rfl, by decide +kernel, by decide +kernel⟩
theorem w_odd_houses (Z : Bas K mg)  {f : Addr} {cdv : Value} {A : Around} {outer : List PySem.Env} {s : Shared} {H : Hp} {E : XK} (hr : Room 1 (A.deeper (envOfC "odd_houses" (defScope st_odd_houses) s.heap.objs.size f cdv))) :
    PSs (cxOf CX0 P w K mg base N_odd_houses "odd_houses" (defScope st_odd_houses) f cdv A outer s H E).nox (defBody st_odd_houses) (t_odd_houses w K) := by
  have nd : (N_odd_houses).Nodup := sc_odd_houses.nd
  exact (pss_cons (ps_set (i := 4) nd rfl (Or.inl rfl) (pe_callB (call_min2 rfl) rfl (Z.free "min") boot_min (pa_cons (pv 2) (pa_cons (pe_op op_add (pv 0) (pv 1)) pa_nil))))
    (pss_cons (ps_aug (i := 4) nd rfl (Or.inl rfl) (pe_op op_mod (pe_op op_sub (pe_op op_add (pv 0) (pv 1)) (pv 4)) pe_int) ip_sub)
    (pss_one (ps_ret (pe_ifExp (PW.pt (pw_and (pt_val (pv 3)) (pw_and (pt_cmpR op_eq (pv 4) (pv 2) (nomark _)) (pw_and1 (pt_cmpR op_gt (pv 2) pe_int (nomark _)))))) (pe_op op_sub (pv 4) pe_int) (pv 4))))))
abbrev N_best_given : List Str := (["entries", "scale", "houses", "total", "runs", "odd", "index", "sort", "times", "avoids", "hits"] : List Str)
theorem sc_best_given : FnScope N_best_given (["entries", "scale", "houses"] : List Str) (defScope st_best_given) := ⟨rfl, rfl, rfl, by decide +kernel, rfl, by decide +kernel, by decide +kernel⟩
theorem w_best_given (Z : Bas K mg) (F_even_runs : Fct P w K mg base 8 "even_runs" (["entries", "scale"] : List Str) (sp_even_runs K)) (F_odd_houses : Fct P w K mg base 2 "odd_houses" (["odd", "times", "houses", "avoids"] : List Str) (sp_odd_houses K)) {f : Addr} {cdv : Value} {A : Around} {outer : List PySem.Env} {s : Shared} {H : Hp} {E : XK} (hr : Room 8 (A.deeper (envOfC "best_given" (defScope st_best_given) s.heap.objs.size f cdv))) :
    PSs (cxOf CX0 P w K mg base N_best_given "best_given" (defScope st_best_given) f cdv A outer s H E).nox (defBody st_best_given) (t_best_given w K) := by
  have nd : (N_best_given).Nodup := sc_best_given.nd
  exact (pss_cons (ps_asg (pe_f F_even_runs hr (by decide) (pa_cons (pv 0) (pa_cons (pv 1) pa_nil))) (pg_tup rfl (pgs_cons (pg_name (i := 3) nd rfl (Or.inl rfl)) (pgs_cons (pg_name (i := 4) nd rfl (Or.inl rfl)) pgs_nil))))
    (pss_cons (ps_set (i := 5) nd rfl (Or.inl rfl) pe_int)
    (pss_cons (ps_for PassesOwn.never rfl (pi_enum rfl (Z.free "enumerate") (pa_cons (pv 4) pa_nil)) (pg_tup rfl (pgs_cons (pg_name (i := 6) nd rfl (Or.inl rfl)) (pgs_cons (pg_tup rfl (pgs_cons (pg_name (i := 7) nd rfl (Or.inl rfl)) (pgs_cons (pg_name (i := 8) nd rfl (Or.inl rfl)) pgs_nil))) pgs_nil))) (pss_one (ps_if (pt_cmpR op_eq (pv 7) pe_str (nomark _)) (pss_cons (ps_set (i := 9) nd rfl (Or.inl rfl) (pe_and (pe_cmpR op_lt (pe_op op_add (pv 6) pe_int) (pe_callB call_len_seq rfl (Z.free "len") boot_len (pa_cons (pv 4) pa_nil)) (nomark _)) (pe_one (pe_cmpR op_eq (pe_ix ix_tup (pe_ix ix_list (pv 4) (pe_op op_add (pv 6) pe_int) (fun _ _ => rfl)) pe_int (fun _ _ => rfl)) pe_str (nomark _)))))
    (pss_one (ps_set (i := 5) nd rfl (Or.inl rfl) (pe_f F_odd_houses hr (by decide) (pa_cons (pv 5) (pa_cons (pv 8) (pa_cons (pv 2) (pa_cons (pv 9) pa_nil)))))))) (pss_one (ps_if (pt_cmpR op_eq (pv 7) pe_str (nomark _)) (pss_cons (ps_set (i := 10) nd rfl (Or.inl rfl) (pe_callB (call_min2 rfl) rfl (Z.free "min") boot_min (pa_cons (pv 5) (pa_cons (pv 8) pa_nil))))
    (pss_one (ps_par (i := 3) (j := 5) rfl nd rfl rfl (by decide) rfl rfl (pa_cons (pe_op op_add (pv 3) (pv 10)) (pa_cons (pe_op op_sub (pv 5) (pv 10)) pa_nil)) rfl))) (pss_one (ps_if (PW.pt (pw_and (pt_cmpR op_eq (pv 2) pe_int (nomark _)) (pw_and1 (pt_cmpR op_eq (pv 5) pe_int (nomark _))))) (pss_one (ps_par (i := 3) (j := 5) rfl nd rfl rfl (by decide) rfl rfl (pa_cons (pe_op op_sub (pv 3) pe_int) (pa_cons pe_int pa_nil)) rfl)) pss_nil)))))))
    (pss_one (ps_ret (pv 3))))))
abbrev N_negated : List Str := (["entries", "worth", "times"] : List Str)
theorem sc_negated : FnScope N_negated (["entries"] : List Str) (defScope st_negated) := ⟨rfl, rfl, rfl, by decide +kernel, rfl, by decide +kernel, by decide +kernel⟩
theorem w_negated (Z : Bas K mg) (Mneg : Mtd P w K mg base 7 (cW K) "__neg__" (["self"] : List Str) (spNegW K)) {f : Addr} {cdv : Value} {A : Around} {outer : List PySem.Env} {s : Shared} {H : Hp} {E : XK} (hr : Room 7 (A.deeper (envOfC "negated" (defScope st_negated) s.heap.objs.size f cdv))) :
    PSs (cxOf CX0 P w K mg base N_negated "negated" (defScope st_negated) f cdv A outer s H E).nox (defBody st_negated) (t_negated w K) := by
  have nd : (N_negated).Nodup := sc_negated.nd
  exact (pss_one (ps_ret (pe_lc (own := [("worth", 1), ("times", 2)]) (g := (gTup K 2 (gCons (gName 1) (gCons (gName 2) gNil)))) (tt := tYes) rfl nd (pi_list (pv 0)) (blkOk_by (own := [("worth", 1), ("times", 2)]) (N := N_negated) (sc := (defScope st_negated)) (by decide +kernel)) (fun _ _ _ _ _ => (pg_tup rfl (pgs_cons (pg_name (i := 1) nd rfl (Or.inl rfl)) (pgs_cons (pg_name (i := 2) nd rfl (Or.inl rfl)) pgs_nil)))) (fun _ _ _ _ _ => pts_nil) (fun _ _ _ _ _ => (pe_tup (pa_cons (pe_un (un_negW Mneg hr (by decide)) (pv 1)) (pa_cons (pv 2) pa_nil)))))))
abbrev N_need_told_giving : List Str := (["entries", "scale", "way"] : List Str)
theorem sc_need_told_giving : FnScope N_need_told_giving (["entries", "scale", "way"] : List Str) (defScope st_need_told_giving) := ⟨rfl, rfl, rfl, by decide +kernel, rfl, by decide +kernel, by decide +kernel⟩
theorem w_need_told_giving (Z : Bas K mg) (F_free_entries : Fct P w K mg base 8 "free_entries" (["entries", "scale", "way"] : List Str) (sp_free_entries K)) {f : Addr} {cdv : Value} {A : Around} {outer : List PySem.Env} {s : Shared} {H : Hp} {E : XK} (hr : Room 8 (A.deeper (envOfC "need_told" (defScope st_need_told_giving) s.heap.objs.size f cdv))) :
    PSs (cxOf CX0 P w K mg base N_need_told_giving "need_told" (defScope st_need_told_giving) f cdv A outer s H E).nox (defBody st_need_told_giving) (t_need_told_giving w K) := by
  have nd : (N_need_told_giving).Nodup := sc_need_told_giving.nd
  exact (pss_one (ps_if (PW.pt (pw_and (pt_cmpR op_ne (pv 2) pe_str (nomark _)) (pw_and1 (pt_not (pt_val (pe_f F_free_entries hr (by decide) (pa_cons (pv 0) (pa_cons (pv 1) (pa_cons (pv 2) pa_nil))))))))) (pss_one ps_never) pss_nil))
abbrev N_given_range : List Str := (["entries", "scale", "way", "houses", "low", "high"] : List Str)
theorem sc_given_range : FnScope N_given_range (["entries", "scale", "way", "houses"] : List Str) (defScope st_given_range) := ⟨rfl, rfl, rfl, by decide +kernel, rfl, by decide +kernel, by decide +kernel⟩
theorem w_given_range (Z : Bas K mg) (F_best_given : Fct P w K mg base 9 "best_given" (["entries", "scale", "houses"] : List Str) (sp_best_given K)) (F_need_asked : Fct P w K mg base 6 "need_asked" (["entries", "scale", "way"] : List Str) (sp_need_asked K)) (F_need_positive : Fct P w K mg base 4 "need_positive" (["value"] : List Str) (sp_need_positive K)) (F_need_told_giving : Fct P w K mg base 9 "need_told_giving" (["entries", "scale", "way"] : List Str) (sp_need_told_giving K)) (F_negated : Fct P w K mg base 8 "negated" (["entries"] : List Str) (sp_negated K)) (F_running_units : Fct P w K mg base 8 "running_units" (["entries", "scale", "way"] : List Str) (sp_running_units K)) (MkW : MkrW P w K mg base 5) {f : Addr} {cdv : Value} {A : Around} {outer : List PySem.Env} {s : Shared} {H : Hp} {E : XK} (hr : Room 9 (A.deeper (envOfC "given_range" (defScope st_given_range) s.heap.objs.size f cdv))) :
    PSs (cxOf CX0 P w K mg base N_given_range "given_range" (defScope st_given_range) f cdv A outer s H E).nox (defBody st_given_range) (t_given_range w K) := by
  have nd : (N_given_range).Nodup := sc_given_range.nd
  exact (pss_cons (ps_expr (pe_f F_need_asked hr (by decide) (pa_cons (pv 0) (pa_cons (pv 1) (pa_cons (pv 2) pa_nil)))))
    (pss_cons (ps_expr (pe_f F_need_positive hr (by decide) (pa_cons (pv 3) pa_nil)))
    (pss_cons (ps_expr (pe_f F_need_told_giving hr (by decide) (pa_cons (pv 0) (pa_cons (pv 1) (pa_cons (pv 2) pa_nil)))))
    (pss_cons (ps_if (pt_cmpR op_eq (pv 2) pe_str (nomark _)) (pss_one (ps_par (i := 4) (j := 5) rfl nd rfl rfl (by decide) rfl rfl (pa_cons (pe_un un_neg (pe_f F_best_given hr (by decide) (pa_cons (pe_f F_negated hr (by decide) (pa_cons (pv 0) pa_nil)) (pa_cons (pv 1) (pa_cons (pv 3) pa_nil))))) (pa_cons (pe_f F_best_given hr (by decide) (pa_cons (pv 0) (pa_cons (pv 1) (pa_cons (pv 3) pa_nil)))) pa_nil)) rfl)) (pss_cons (ps_set (i := 4) nd rfl (Or.inl rfl) (pe_f F_running_units hr (by decide) (pa_cons (pv 0) (pa_cons (pv 1) (pa_cons (pv 2) pa_nil)))))
    (pss_one (ps_set (i := 5) nd rfl (Or.inl rfl) (pv 4)))))
    (pss_one (ps_ret (pe_tup (pa_cons (pe_mkW MkW hr (by decide) (pa_cons (pv 4) (pa_cons (pv 1) pa_nil))) (pa_cons (pe_mkW MkW hr (by decide) (pa_cons (pv 5) (pa_cons (pv 1) pa_nil))) pa_nil)))))))))
abbrev N_enough : List Str := (["entries", "scale", "low", "high", "best", "middle", "worth", "times"] : List Str)
theorem sc_enough : FnScope N_enough (["entries", "scale"] : List Str) (defScope st_enough) := ⟨rfl, rfl, rfl, by decide +kernel, rfl, by decide +kernel, by decide +kernel⟩
theorem w_enough (Z : Bas K mg) (F_best_given : Fct P w K mg base 9 "best_given" (["entries", "scale", "houses"] : List Str) (sp_best_given K)) {f : Addr} {cdv : Value} {A : Around} {outer : List PySem.Env} {s : Shared} {H : Hp} {E : XK} (hr : Room 9 (A.deeper (envOfC "enough" (defScope st_enough) s.heap.objs.size f cdv))) :
    PSs (cxOf CX0 P w K mg base N_enough "enough" (defScope st_enough) f cdv A outer s H E).nox (defBody st_enough) (t_enough w K) := by
  have nd : (N_enough).Nodup := sc_enough.nd
  exact (pss_cons (ps_par (i := 2) (j := 3) rfl nd rfl rfl (by decide) rfl rfl (pa_cons pe_int (pa_cons (pe_op op_add pe_int (pe_callB (cr_sum rfl) rfl (Z.free "sum") boot_sum (pa_cons (pe_lc (own := [("worth", 6), ("times", 7)]) (g := (gTup K 2 (gCons (gName 6) (gCons (gName 7) gNil)))) (tt := tYes) rfl nd (pi_list (pv 0)) (blkOk_by (own := [("worth", 6), ("times", 7)]) (N := N_enough) (sc := (defScope st_enough)) (by decide +kernel)) (fun _ _ _ _ _ => (pg_tup rfl (pgs_cons (pg_name (i := 6) nd rfl (Or.inl rfl)) (pgs_cons (pg_name (i := 7) nd rfl (Or.inl rfl)) pgs_nil)))) (fun _ _ _ _ _ => pts_nil) (fun _ _ _ _ _ => (pe_callTy call_int1 rfl (Z.free "int") boot_int (pa_cons (pv 7) pa_nil)))) pa_nil))) pa_nil)) rfl)
    (pss_cons (ps_set (i := 4) nd rfl (Or.inl rfl) (pe_f F_best_given hr (by decide) (pa_cons (pv 0) (pa_cons (pv 1) (pa_cons (pv 3) pa_nil)))))
    (pss_cons (ps_while PassesOwn.never (pt_cmpR op_lt (pv 2) (pv 3) (nomark _)) (pss_cons (ps_set (i := 5) nd rfl (Or.inl rfl) (pe_op op_fdivW (pe_op op_add (pv 2) (pv 3)) pe_int))
    (pss_one (ps_if (pt_cmpR op_eq (pe_f F_best_given hr (by decide) (pa_cons (pv 0) (pa_cons (pv 1) (pa_cons (pv 5) pa_nil)))) (pv 4) (nomark _)) (pss_one (ps_set (i := 3) nd rfl (Or.inl rfl) (pv 5))) (pss_one (ps_set (i := 2) nd rfl (Or.inl rfl) (pe_op op_add (pv 5) pe_int)))))))
    (pss_one (ps_ret (pv 2))))))
end
end KX
/-! The derivations. Printed by gen.py. -/
namespace KX
open PySem PySem.Spec PyProof.Rows L2
section
variable {P : Program} {w : World} {K : PySem.W.Frag} {mg : Str → Option Value} {base : Heap}
abbrev N_houses_enough : List Str := (["entries", "scale", "way"] : List Str)
theorem sc_houses_enough : FnScope N_houses_enough (["entries", "scale", "way"] : List Str) (defScope st_houses_enough) := ⟨rfl, rfl, rfl, by decide +kernel, rfl, by decide +kernel, by decide +kernel⟩
theorem w_houses_enough (Z : Bas K mg) (F_enough : Fct P w K mg base 10 "enough" (["entries", "scale"] : List Str) (sp_enough K)) (F_need_asked : Fct P w K mg base 6 "need_asked" (["entries", "scale", "way"] : List Str) (sp_need_asked K)) (F_need_told_giving : Fct P w K mg base 9 "need_told_giving" (["entries", "scale", "way"] : List Str) (sp_need_told_giving K)) (F_negated : Fct P w K mg base 8 "negated" (["entries"] : List Str) (sp_negated K)) {f : Addr} {cdv : Value} {A : Around} {outer : List PySem.Env} {s : Shared} {H : Hp} {E : XK} (hr : Room 10 (A.deeper (envOfC "houses_enough" (defScope st_houses_enough) s.heap.objs.size f cdv))) :
    PSs (cxOf CX0 P w K mg base N_houses_enough "houses_enough" (defScope st_houses_enough) f cdv A outer s H E).nox (defBody st_houses_enough) (t_houses_enough w K) := by
  have nd : (N_houses_enough).Nodup := sc_houses_enough.nd
  exact (pss_cons (ps_expr (pe_f F_need_asked hr (by decide) (pa_cons (pv 0) (pa_cons (pv 1) (pa_cons (pv 2) pa_nil)))))
    (pss_cons (ps_expr (pe_f F_need_told_giving hr (by decide) (pa_cons (pv 0) (pa_cons (pv 1) (pa_cons (pv 2) pa_nil)))))
    (pss_cons (ps_if (pt_cmpR op_ne (pv 2) pe_str (nomark _)) (pss_one (ps_ret (pe_tup (pa_cons pe_int (pa_cons pe_int pa_nil))))) pss_nil)
    (pss_one (ps_ret (pe_tup (pa_cons (pe_f F_enough hr (by decide) (pa_cons (pe_f F_negated hr (by decide) (pa_cons (pv 0) pa_nil)) (pa_cons (pv 1) pa_nil))) (pa_cons (pe_f F_enough hr (by decide) (pa_cons (pv 0) (pa_cons (pv 1) pa_nil))) pa_nil))))))))
abbrev N_below : List Str := (["period", "length", "bound"] : List Str)
theorem sc_below : FnScope N_below (["period", "length", "bound"] : List Str) (defScope st_below) := ⟨rfl, rfl, rfl, by decide +kernel, rfl, by decide +kernel, by decide +kernel⟩
theorem w_below (Z : Bas K mg)  {f : Addr} {cdv : Value} {A : Around} {outer : List PySem.Env} {s : Shared} {H : Hp} {E : XK} (hr : Room 1 (A.deeper (envOfC "below" (defScope st_below) s.heap.objs.size f cdv))) :
    PSs (cxOf CX0 P w K mg base N_below "below" (defScope st_below) f cdv A outer s H E).nox (defBody st_below) (t_below w K) := by
  have nd : (N_below).Nodup := sc_below.nd
  exact (pss_one (ps_ret (pe_op op_add (pe_op op_mulW (pv 1) (pe_op op_fdivW (pv 2) (pv 0))) (pe_callB (call_min2 rfl) rfl (Z.free "min") boot_min (pa_cons (pe_op op_mod (pe_callTy call_int1 rfl (Z.free "int") boot_int (pa_cons (pv 2) pa_nil)) (pv 0)) (pa_cons (pe_callTy call_int1 rfl (Z.free "int") boot_int (pa_cons (pv 1) pa_nil)) pa_nil))))))
abbrev N_Deal___init__ : List Str := (["self", "block", "houses", "shift"] : List Str)
theorem sc_Deal___init__ : FnScope N_Deal___init__ (["self", "block", "houses", "shift"] : List Str) (defScope st_Deal___init__) := ⟨rfl, rfl, rfl, by decide +kernel, rfl, by decide +kernel, by decide +kernel⟩
theorem w_Deal___init__ (Z : Bas K mg) (F_need_integer : Fct P w K mg base 3 "need_integer" (["value"] : List Str) (sp_need_integer K)) (F_need_positive : Fct P w K mg base 4 "need_positive" (["value"] : List Str) (sp_need_positive K)) {f : Addr} {cdv : Value} {A : Around} {outer : List PySem.Env} {s : Shared} {H : Hp} {E : XK} (hr : Room 4 (A.deeper (envOfC "Deal.__init__" (defScope st_Deal___init__) s.heap.objs.size f cdv))) :
    PSs (cxOf CX0 P w K mg base N_Deal___init__ "Deal.__init__" (defScope st_Deal___init__) f cdv A outer s H E).nox (defBody st_Deal___init__) (t_Deal___init__ w K) := by
  have nd : (N_Deal___init__).Nodup := sc_Deal___init__.nd
  exact (pss_cons (ps_expr (pe_f F_need_positive hr (by decide) (pa_cons (pv 1) pa_nil)))
    (pss_cons (ps_expr (pe_f F_need_positive hr (by decide) (pa_cons (pv 2) pa_nil)))
    (pss_cons (ps_expr (pe_f F_need_integer hr (by decide) (pa_cons (pv 3) pa_nil)))
    (pss_cons (ps_asg (pv 2) (pg_fld (pv 0)))
    (pss_cons (ps_asg (pe_ifExp (pt_cmpR op_gt (pv 2) pe_int (nomark _)) (pv 1) pe_int) (pg_fld (pv 0)))
    (pss_one (ps_asg (pe_op op_mod (pv 3) (pe_op op_mulW (pe_fld (pv 0) rfl) (pv 2))) (pg_fld (pv 0)))))))))
abbrev N_Deal_turn : List Str := (["self"] : List Str)
theorem sc_Deal_turn : FnScope N_Deal_turn (["self"] : List Str) (defScope st_Deal_turn) := ⟨rfl, rfl, rfl, by decide +kernel, rfl, by decide +kernel, by decide +kernel⟩
theorem w_Deal_turn (Z : Bas K mg)  {f : Addr} {cdv : Value} {A : Around} {outer : List PySem.Env} {s : Shared} {H : Hp} {E : XK} (hr : Room 1 (A.deeper (envOfC "Deal.turn" (defScope st_Deal_turn) s.heap.objs.size f cdv))) :
    PSs (cxOf CX0 P w K mg base N_Deal_turn "Deal.turn" (defScope st_Deal_turn) f cdv A outer s H E).nox (defBody st_Deal_turn) (t_Deal_turn w K) := by
  have nd : (N_Deal_turn).Nodup := sc_Deal_turn.nd
  exact (pss_one (ps_ret (pe_op op_mulW (pe_fld (pv 0) rfl) (pe_fld (pv 0) rfl))))
abbrev N_need_deal : List Str := (["value"] : List Str)
theorem sc_need_deal : FnScope N_need_deal (["value"] : List Str) (defScope st_need_deal) := ⟨rfl, rfl, rfl, by decide +kernel, rfl, by decide +kernel, by decide +kernel⟩
theorem w_need_deal (Z : Bas K mg)  {f : Addr} {cdv : Value} {A : Around} {outer : List PySem.Env} {s : Shared} {H : Hp} {E : XK} (hr : Room 1 (A.deeper (envOfC "need_deal" (defScope st_need_deal) s.heap.objs.size f cdv))) :
    PSs (cxOf CX0 P w K mg base N_need_deal "need_deal" (defScope st_need_deal) f cdv A outer s H E).nox (defBody st_need_deal) (t_need_deal w K) := by
  have nd : (N_need_deal).Nodup := sc_need_deal.nd
  exact (pss_one (ps_if (pt_not (pt_val (pe_callB call_isi rfl (Z.free "isinstance") boot_isinstance (pa_cons (pv 0) (pa_cons (pe_glob rfl (Z.glo "Deal") rfl) pa_nil))))) (pss_one ps_never) pss_nil))
abbrev N_form_of : List Str := (["entries", "found", "worth", "times"] : List Str)
theorem sc_form_of : FnScope N_form_of (["entries"] : List Str) (defScope st_form_of) := ⟨rfl, rfl, rfl, by decide +kernel, rfl, by decide +kernel, by decide +kernel⟩
theorem w_form_of (Z : Bas K mg) (Meq : Mtd P w K mg base 2 (cW K) "__eq__" (["self", "other"] : List Str) (spEqW K)) {f : Addr} {cdv : Value} {A : Around} {outer : List PySem.Env} {s : Shared} {H : Hp} {E : XK} (hr : Room 4 (A.deeper (envOfC "form_of" (defScope st_form_of) s.heap.objs.size f cdv))) :
    PSs (cxOf CX0 P w K mg base N_form_of "form_of" (defScope st_form_of) f cdv A outer s H E).nox (defBody st_form_of) (t_form_of w K) := by
  have nd : (N_form_of).Nodup := sc_form_of.nd
  exact (pss_cons (ps_set (i := 1) nd rfl (Or.inl rfl) (pe_lst pa_nil))
    (pss_cons (ps_for PassesOwn.never rfl (pi_list (pv 0)) (pg_tup rfl (pgs_cons (pg_name (i := 2) nd rfl (Or.inl rfl)) (pgs_cons (pg_name (i := 3) nd rfl (Or.inl rfl)) pgs_nil))) (pss_one (ps_if (PW.pt (pw_and (pt_cmpR op_gt (pv 3) pe_int (nomark _)) (pw_and (pt_truth (pv 1) (fun _ => rfl)) (pw_and1 (pt_cmpR (op_eqW Meq hr (by decide)) (pe_ix ix_tup (pe_ix ix_list (pv 1) (pe_un un_neg pe_int) (fun _ _ => rfl)) pe_int (fun _ _ => rfl)) (pv 2) (nomark _)))))) (pss_one (ps_asg (pe_tup (pa_cons (pv 2) (pa_cons (pe_op op_add (pe_ix ix_tup (pe_ix ix_list (pv 1) (pe_un un_neg pe_int) (fun _ _ => rfl)) pe_int (fun _ _ => rfl)) (pv 3)) pa_nil))) (pg_sub (pv 1) (pe_un un_neg pe_int) set_list))) (pss_one (ps_if (pt_cmpR op_gt (pv 3) pe_int (nomark _)) (pss_one (ps_expr (pe_bm PySem.F.plainAttrs_list PySem.F.slot_list_append PySem.F.type_list_append mt_append (pv 1) (pa_cons (pe_tup (pa_cons (pv 2) (pa_cons (pv 3) pa_nil))) pa_nil)))) pss_nil)))))
    (pss_one (ps_ret (pv 1)))))
abbrev N_runs_of : List Str := (["entries"] : List Str)
theorem sc_runs_of : FnScope N_runs_of (["entries"] : List Str) (defScope st_runs_of) := ⟨rfl, rfl, rfl, by decide +kernel, rfl, by decide +kernel, by decide +kernel⟩
theorem w_runs_of (Z : Bas K mg) (F_form_of : Fct P w K mg base 5 "form_of" (["entries"] : List Str) (sp_form_of K)) (F_need_entries : Fct P w K mg base 5 "need_entries" (["entries"] : List Str) (sp_need_entries K)) {f : Addr} {cdv : Value} {A : Around} {outer : List PySem.Env} {s : Shared} {H : Hp} {E : XK} (hr : Room 5 (A.deeper (envOfC "runs_of" (defScope st_runs_of) s.heap.objs.size f cdv))) :
    PSs (cxOf CX0 P w K mg base N_runs_of "runs_of" (defScope st_runs_of) f cdv A outer s H E).nox (defBody st_runs_of) (t_runs_of w K) := by
  have nd : (N_runs_of).Nodup := sc_runs_of.nd
  exact (pss_cons (ps_expr (pe_f F_need_entries hr (by decide) (pa_cons (pv 0) pa_nil)))
    (pss_one (ps_ret (pe_f F_form_of hr (by decide) (pa_cons (pv 0) pa_nil)))))
abbrev N_borders_of : List Str := (["runs", "found", "worth", "times"] : List Str)
theorem sc_borders_of : FnScope N_borders_of (["runs"] : List Str) (defScope st_borders_of) := ⟨rfl, rfl, rfl, by decide +kernel, rfl, by decide +kernel, by decide +kernel⟩
theorem w_borders_of (Z : Bas K mg)  {f : Addr} {cdv : Value} {A : Around} {outer : List PySem.Env} {s : Shared} {H : Hp} {E : XK} (hr : Room 1 (A.deeper (envOfC "borders_of" (defScope st_borders_of) s.heap.objs.size f cdv))) :
    PSs (cxOf CX0 P w K mg base N_borders_of "borders_of" (defScope st_borders_of) f cdv A outer s H E).nox (defBody st_borders_of) (t_borders_of w K) := by
  have nd : (N_borders_of).Nodup := sc_borders_of.nd
  exact (pss_cons (ps_set (i := 1) nd rfl (Or.inl rfl) (pe_lst (pa_cons pe_int pa_nil)))
    (pss_cons (ps_for PassesOwn.never rfl (pi_list (pv 0)) (pg_tup rfl (pgs_cons (pg_name (i := 2) nd rfl (Or.inl rfl)) (pgs_cons (pg_name (i := 3) nd rfl (Or.inl rfl)) pgs_nil))) (pss_one (ps_expr (pe_bm PySem.F.plainAttrs_list PySem.F.slot_list_append PySem.F.type_list_append mt_append (pv 1) (pa_cons (pe_op op_add (pe_ix ix_list (pv 1) (pe_un un_neg pe_int) (fun _ _ => rfl)) (pv 3)) pa_nil)))))
    (pss_one (ps_ret (pv 1)))))
abbrev N_counts_of : List Str := (["borders", "deal", "house", "turn", "start", "held", "border", "at"] : List Str)
theorem sc_counts_of : FnScope N_counts_of (["borders", "deal", "house"] : List Str) (defScope st_counts_of) := ⟨rfl, rfl, rfl, by decide +kernel, rfl, by decide +kernel, by decide +kernel⟩
theorem w_counts_of (Z : Bas K mg) (F_below : Fct P w K mg base 2 "below" (["period", "length", "bound"] : List Str) (sp_below K)) (M_Deal_turn : Mtd P w K mg base 2 (cD K) "turn" (["self"] : List Str) (sp_Deal_turn K)) {f : Addr} {cdv : Value} {A : Around} {outer : List PySem.Env} {s : Shared} {H : Hp} {E : XK} (hr : Room 2 (A.deeper (envOfC "counts_of" (defScope st_counts_of) s.heap.objs.size f cdv))) :
    PSs (cxOf CX0 P w K mg base N_counts_of "counts_of" (defScope st_counts_of) f cdv A outer s H E).nox (defBody st_counts_of) (t_counts_of w K) := by
  have nd : (N_counts_of).Nodup := sc_counts_of.nd
  exact (pss_cons (ps_asg (pe_tup (pa_cons (pe_m0 M_Deal_turn Z.clD hr (by decide) (pv 1)) (pa_cons (pe_op op_sub (pe_fld (pv 1) rfl) (pe_op op_mulW (pv 2) (pe_fld (pv 1) rfl))) pa_nil))) (pg_tup rfl (pgs_cons (pg_name (i := 3) nd rfl (Or.inr rfl)) (pgs_cons (pg_name (i := 4) nd rfl (Or.inr rfl)) pgs_nil))))
    (pss_cons (ps_set (i := 5) nd rfl (Or.inr rfl) (pe_lc (own := [("border", 6)]) (g := (gName 6)) (tt := tYes) rfl nd (pi_list (pv 0)) (blkOk_by (own := [("border", 6)]) (N := N_counts_of) (sc := (defScope st_counts_of)) (by decide +kernel)) (fun _ _ _ _ _ => (pg_name (i := 6) nd rfl (Or.inl rfl))) (fun _ _ _ _ _ => pts_nil) (fun _ _ _ _ _ => (pe_f F_below hr (by decide) (pa_cons (pv 3) (pa_cons (pe_fld (pv 1) rfl) (pa_cons (pe_op op_add (pv 6) (pv 4)) pa_nil)))))))
    (pss_one (ps_ret (pe_lc (own := [("at", 7)]) (g := (gName 7)) (tt := tYes) rfl nd (pi_range1 rfl (Z.free "range") (pa_cons (pe_op op_sub (pe_callB call_len_seq rfl (Z.free "len") boot_len (pa_cons (pv 5) pa_nil)) pe_int) pa_nil)) (blkOk_by (own := [("at", 7)]) (N := N_counts_of) (sc := (defScope st_counts_of)) (by decide +kernel)) (fun _ _ _ _ _ => (pg_name (i := 7) nd rfl (Or.inl rfl))) (fun _ _ _ _ _ => pts_nil) (fun _ _ _ _ _ => (pe_op op_sub (pe_ix ix_list (pv 5) (pe_op op_add (pv 7) pe_int) (fun _ _ => rfl)) (pe_ix ix_list (pv 5) (pv 7) (fun _ _ => rfl)))))))))
abbrev N_stretches_of : List Str := (["borders", "deal", "special", "points", "firsts", "border", "house", "point"] : List Str)
theorem sc_stretches_of : FnScope N_stretches_of (["borders", "deal"] : List Str) (defScope st_stretches_of) := ⟨rfl, rfl, rfl, by decide +kernel, rfl, by decide +kernel, by decide +kernel⟩
theorem w_stretches_of (Z : Bas K mg)  {f : Addr} {cdv : Value} {A : Around} {outer : List PySem.Env} {s : Shared} {H : Hp} {E : XK} (hr : Room 1 (A.deeper (envOfC "stretches_of" (defScope st_stretches_of) s.heap.objs.size f cdv))) :
    PSs (cxOf CX0 P w K mg base N_stretches_of "stretches_of" (defScope st_stretches_of) f cdv A outer s H E).nox (defBody st_stretches_of) (t_stretches_of w K) := by
  have nd : (N_stretches_of).Nodup := sc_stretches_of.nd
  exact (pss_cons (ps_setLc (i := 2) (own := [("border", 5)]) (g := (gName 5)) (tt := tYes) rfl nd rfl rfl (sw_true rfl rfl rfl (by decide +kernel)) (pi_list (pv 0)) (blkOk_by (own := [("border", 5)]) (N := N_stretches_of) (sc := (defScope st_stretches_of)) (by decide +kernel)) (fun _ _ _ _ _ => (pg_name (i := 5) nd rfl (Or.inl rfl))) (fun _ _ _ _ _ => pts_nil) (fun _ _ _ _ _ => (pe_op op_mod (pe_op op_fdivW (pe_op op_add (pv 5) (pe_fld (pv 1) rfl)) (pe_fld (pv 1) rfl)) (pe_fld (pv 1) rfl))))
    (pss_cons (ps_set (i := 3) nd rfl (Or.inl rfl) (pe_op op_cat (pe_op op_cat (pe_lst (pa_cons pe_int pa_nil)) (pv 2)) (pe_lc (own := [("house", 6)]) (g := (gName 6)) (tt := tYes) rfl nd (pi_list (pv 2)) (blkOk_by (own := [("house", 6)]) (N := N_stretches_of) (sc := (defScope st_stretches_of)) (by decide +kernel)) (fun _ _ _ _ _ => (pg_name (i := 6) nd rfl (Or.inl rfl))) (fun _ _ _ _ _ => pts_nil) (fun _ _ _ _ _ => (pe_op op_add (pv 6) pe_int)))))
    (pss_cons (ps_set (i := 4) nd rfl (Or.inl rfl) (pe_callB (cr_sortedSet rfl) rfl (Z.free "sorted") boot_sorted (pa_cons (pe_sci (own := [("point", 7)]) (g := (gName 7)) (tt := (tTest (tOp rLt (tVar 7) (tFld K (tVar 1) "houses")))) rfl nd (pi_list (pv 3)) (blkOk_by (own := [("point", 7)]) (N := N_stretches_of) (sc := (defScope st_stretches_of)) (by decide +kernel)) (fun _ _ _ _ _ => (pg_name (i := 7) nd rfl (Or.inl rfl))) (fun _ _ _ _ _ => (pts_one (pt_cmpR op_lt (pv 7) (pe_fld (pv 1) rfl) (nomark _)))) (fun _ _ _ _ _ => (pv 7))) pa_nil)))
    (pss_one (ps_ret (pe_zipL rfl rfl (Z.free "list") rfl (Z.free "zip") boot_list (pa_cons (pv 4) (pa_cons (pe_op op_cat (pe_slice sl_list (pv 4) (po_some pe_int) po_none) (pe_lst (pa_cons (pe_fld (pv 1) rfl) pa_nil))) pa_nil))))))))
abbrev N_parts_of : List Str := (["runs", "scale", "way", "worth", "times"] : List Str)
theorem sc_parts_of : FnScope N_parts_of (["runs", "scale", "way"] : List Str) (defScope st_parts_of) := ⟨rfl, rfl, rfl, by decide +kernel, rfl, by decide +kernel, by decide +kernel⟩
theorem w_parts_of (Z : Bas K mg) (F_loose_parts : Fct P w K mg base 7 "loose_parts" (["worth", "scale", "way"] : List Str) (sp_loose_parts K)) {f : Addr} {cdv : Value} {A : Around} {outer : List PySem.Env} {s : Shared} {H : Hp} {E : XK} (hr : Room 7 (A.deeper (envOfC "parts_of" (defScope st_parts_of) s.heap.objs.size f cdv))) :
    PSs (cxOf CX0 P w K mg base N_parts_of "parts_of" (defScope st_parts_of) f cdv A outer s H E).nox (defBody st_parts_of) (t_parts_of w K) := by
  have nd : (N_parts_of).Nodup := sc_parts_of.nd
  exact (pss_one (ps_ret (pe_lc (own := [("worth", 3), ("times", 4)]) (g := (gTup K 2 (gCons (gName 3) (gCons (gName 4) gNil)))) (tt := tYes) rfl nd (pi_list (pv 0)) (blkOk_by (own := [("worth", 3), ("times", 4)]) (N := N_parts_of) (sc := (defScope st_parts_of)) (by decide +kernel)) (fun _ _ _ _ _ => (pg_tup rfl (pgs_cons (pg_name (i := 3) nd rfl (Or.inl rfl)) (pgs_cons (pg_name (i := 4) nd rfl (Or.inl rfl)) pgs_nil)))) (fun _ _ _ _ _ => pts_nil) (fun _ _ _ _ _ => (pe_f F_loose_parts hr (by decide) (pa_cons (pv 3) (pa_cons (pv 1) (pa_cons (pv 2) pa_nil))))))))
abbrev N_counted_total : List Str := (["parts", "counts", "way", "state", "loose", "units", "times"] : List Str)
theorem sc_counted_total : FnScope N_counted_total (["parts", "counts", "way"] : List Str) (defScope st_counted_total) := ⟨rfl, rfl, rfl, by decide +kernel, rfl, by decide +kernel, by decide +kernel⟩
theorem w_counted_total (Z : Bas K mg) (F_added_often : Fct P w K mg base 3 "added_often" (["state", "units", "times", "way"] : List Str) (sp_added_often K)) {f : Addr} {cdv : Value} {A : Around} {outer : List PySem.Env} {s : Shared} {H : Hp} {E : XK} (hr : Room 3 (A.deeper (envOfC "counted_total" (defScope st_counted_total) s.heap.objs.size f cdv))) :
    PSs (cxOf CX0 P w K mg base N_counted_total "counted_total" (defScope st_counted_total) f cdv A outer s H E).nox (defBody st_counted_total) (t_counted_total w K) := by
  have nd : (N_counted_total).Nodup := sc_counted_total.nd
  exact (pss_cons (ps_set (i := 3) nd rfl (Or.inl rfl) pe_int)
    (pss_cons (ps_for PassesOwn.never rfl (pi_list (pe_zipL rfl rfl (Z.free "list") rfl (Z.free "zip") boot_list (pa_cons (pv 0) (pa_cons (pv 1) pa_nil)))) (pg_tup rfl (pgs_cons (pg_tup rfl (pgs_cons (pg_name (i := 4) nd rfl (Or.inl rfl)) (pgs_cons (pg_name (i := 5) nd rfl (Or.inl rfl)) pgs_nil))) (pgs_cons (pg_name (i := 6) nd rfl (Or.inl rfl)) pgs_nil))) (pss_one (ps_if (pt_not (pt_val (pv 4))) (pss_one (ps_aug (i := 3) nd rfl (Or.inl rfl) (pe_op op_mulW (pv 6) (pv 5)) ip_add)) (pss_one (ps_if (pt_cmpR op_gt (pv 6) pe_int (nomark _)) (pss_one (ps_set (i := 3) nd rfl (Or.inl rfl) (pe_f F_added_often hr (by decide) (pa_cons (pv 3) (pa_cons (pv 5) (pa_cons (pv 6) (pa_cons (pv 2) pa_nil))))))) pss_nil)))))
    (pss_one (ps_ret (pv 3)))))
abbrev N_dealt_of : List Str := (["borders", "parts", "deal", "way", "total", "first", "after"] : List Str)
theorem sc_dealt_of : FnScope N_dealt_of (["borders", "parts", "deal", "way"] : List Str) (defScope st_dealt_of) := ⟨rfl, rfl, rfl, by decide +kernel, rfl, by decide +kernel, by decide +kernel⟩
theorem w_dealt_of (Z : Bas K mg) (F_counted_total : Fct P w K mg base 4 "counted_total" (["parts", "counts", "way"] : List Str) (sp_counted_total K)) (F_counts_of : Fct P w K mg base 3 "counts_of" (["borders", "deal", "house"] : List Str) (sp_counts_of K)) (F_stretches_of : Fct P w K mg base 2 "stretches_of" (["borders", "deal"] : List Str) (sp_stretches_of K)) {f : Addr} {cdv : Value} {A : Around} {outer : List PySem.Env} {s : Shared} {H : Hp} {E : XK} (hr : Room 4 (A.deeper (envOfC "dealt_of" (defScope st_dealt_of) s.heap.objs.size f cdv))) :
    PSs (cxOf CX0 P w K mg base N_dealt_of "dealt_of" (defScope st_dealt_of) f cdv A outer s H E).nox (defBody st_dealt_of) (t_dealt_of w K) := by
  have nd : (N_dealt_of).Nodup := sc_dealt_of.nd
  exact (pss_cons (ps_set (i := 4) nd rfl (Or.inl rfl) pe_int)
    (pss_cons (ps_for PassesOwn.never rfl (pi_list (pe_f F_stretches_of hr (by decide) (pa_cons (pv 0) (pa_cons (pv 2) pa_nil)))) (pg_tup rfl (pgs_cons (pg_name (i := 5) nd rfl (Or.inl rfl)) (pgs_cons (pg_name (i := 6) nd rfl (Or.inl rfl)) pgs_nil))) (pss_one (ps_aug (i := 4) nd rfl (Or.inl rfl) (pe_op op_mulW (pe_op op_sub (pv 6) (pv 5)) (pe_f F_counted_total hr (by decide) (pa_cons (pv 1) (pa_cons (pe_f F_counts_of hr (by decide) (pa_cons (pv 0) (pa_cons (pv 2) (pa_cons (pv 5) pa_nil)))) (pa_cons (pv 3) pa_nil))))) ip_add)))
    (pss_one (ps_ret (pv 4)))))
abbrev N_dealt_total : List Str := (["entries", "deal", "scale", "way", "runs"] : List Str)
theorem sc_dealt_total : FnScope N_dealt_total (["entries", "deal", "scale", "way"] : List Str) (defScope st_dealt_total) := ⟨rfl, rfl, rfl, by decide +kernel, rfl, by decide +kernel, by decide +kernel⟩
theorem w_dealt_total (Z : Bas K mg) (F_borders_of : Fct P w K mg base 2 "borders_of" (["runs"] : List Str) (sp_borders_of K)) (F_dealt_of : Fct P w K mg base 5 "dealt_of" (["borders", "parts", "deal", "way"] : List Str) (sp_dealt_of K)) (F_need_deal : Fct P w K mg base 2 "need_deal" (["value"] : List Str) (sp_need_deal K)) (F_need_way : Fct P w K mg base 2 "need_way" (["value"] : List Str) (sp_need_way K)) (F_need_whole : Fct P w K mg base 4 "need_whole" (["value"] : List Str) (sp_need_whole K)) (F_parts_of : Fct P w K mg base 8 "parts_of" (["runs", "scale", "way"] : List Str) (sp_parts_of K)) (F_runs_of : Fct P w K mg base 6 "runs_of" (["entries"] : List Str) (sp_runs_of K)) (MkW : MkrW P w K mg base 5) {f : Addr} {cdv : Value} {A : Around} {outer : List PySem.Env} {s : Shared} {H : Hp} {E : XK} (hr : Room 8 (A.deeper (envOfC "dealt_total" (defScope st_dealt_total) s.heap.objs.size f cdv))) :
    PSs (cxOf CX0 P w K mg base N_dealt_total "dealt_total" (defScope st_dealt_total) f cdv A outer s H E).nox (defBody st_dealt_total) (t_dealt_total w K) := by
  have nd : (N_dealt_total).Nodup := sc_dealt_total.nd
  exact (pss_cons (ps_set (i := 4) nd rfl (Or.inl rfl) (pe_f F_runs_of hr (by decide) (pa_cons (pv 0) pa_nil)))
    (pss_cons (ps_expr (pe_f F_need_deal hr (by decide) (pa_cons (pv 1) pa_nil)))
    (pss_cons (ps_expr (pe_f F_need_whole hr (by decide) (pa_cons (pv 2) pa_nil)))
    (pss_cons (ps_expr (pe_f F_need_way hr (by decide) (pa_cons (pv 3) pa_nil)))
    (pss_one (ps_ret (pe_mkW MkW hr (by decide) (pa_cons (pe_f F_dealt_of hr (by decide) (pa_cons (pe_f F_borders_of hr (by decide) (pa_cons (pv 4) pa_nil)) (pa_cons (pe_f F_parts_of hr (by decide) (pa_cons (pv 4) (pa_cons (pv 2) (pa_cons (pv 3) pa_nil)))) (pa_cons (pv 1) (pa_cons (pv 3) pa_nil))))) (pa_cons (pv 2) pa_nil)))))))))
end
end KX
/-! The derivations. Printed by gen.py. -/
namespace KX
open PySem PySem.Spec PyProof.Rows L2
section
variable {P : Program} {w : World} {K : PySem.W.Frag} {mg : Str → Option Value} {base : Heap}
abbrev N_need_told_shiftsums : List Str := (["runs", "scale", "way"] : List Str)
theorem sc_need_told_shiftsums : FnScope N_need_told_shiftsums (["runs", "scale", "way"] : List Str) (defScope st_need_told_shiftsums) := ⟨rfl, rfl, rfl, by decide +kernel, rfl, by decide +kernel, by decide +kernel⟩
theorem w_need_told_shiftsums (Z : Bas K mg) (F_free_entries : Fct P w K mg base 8 "free_entries" (["entries", "scale", "way"] : List Str) (sp_free_entries K)) {f : Addr} {cdv : Value} {A : Around} {outer : List PySem.Env} {s : Shared} {H : Hp} {E : XK} (hr : Room 8 (A.deeper (envOfC "need_told" (defScope st_need_told_shiftsums) s.heap.objs.size f cdv))) :
    PSs (cxOf CX0 P w K mg base N_need_told_shiftsums "need_told" (defScope st_need_told_shiftsums) f cdv A outer s H E).nox (defBody st_need_told_shiftsums) (t_need_told_shiftsums w K) := by
  have nd : (N_need_told_shiftsums).Nodup := sc_need_told_shiftsums.nd
  exact (pss_one (ps_if (PW.pt (pw_and (pt_cmpR op_ne (pv 2) pe_str (nomark _)) (pw_and1 (pt_not (pt_val (pe_f F_free_entries hr (by decide) (pa_cons (pv 0) (pa_cons (pv 1) (pa_cons (pv 2) pa_nil))))))))) (pss_one ps_never) pss_nil))
abbrev N_pieces_of : List Str := (["runs", "block", "breaks", "firsts", "border", "shift"] : List Str)
theorem sc_pieces_of : FnScope N_pieces_of (["runs", "block"] : List Str) (defScope st_pieces_of) := ⟨rfl, rfl, rfl, by decide +kernel, rfl, by decide +kernel, by decide +kernel⟩
theorem w_pieces_of (Z : Bas K mg) (F_borders_of : Fct P w K mg base 2 "borders_of" (["runs"] : List Str) (sp_borders_of K)) {f : Addr} {cdv : Value} {A : Around} {outer : List PySem.Env} {s : Shared} {H : Hp} {E : XK} (hr : Room 2 (A.deeper (envOfC "pieces_of" (defScope st_pieces_of) s.heap.objs.size f cdv))) :
    PSs (cxOf CX0 P w K mg base N_pieces_of "pieces_of" (defScope st_pieces_of) f cdv A outer s H E).nox (defBody st_pieces_of) (t_pieces_of w K) := by
  have nd : (N_pieces_of).Nodup := sc_pieces_of.nd
  exact (pss_cons (ps_set (i := 2) nd rfl (Or.inl rfl) (pe_op op_cat (pe_lst (pa_cons pe_int pa_nil)) (pe_lc (own := [("border", 4)]) (g := (gName 4)) (tt := (tTest (tOp rNe (tOp rMod (tVar 4) (tVar 1)) (tC (.int 0))))) rfl nd (pi_list (pe_f F_borders_of hr (by decide) (pa_cons (pv 0) pa_nil))) (blkOk_by (own := [("border", 4)]) (N := N_pieces_of) (sc := (defScope st_pieces_of)) (by decide +kernel)) (fun _ _ _ _ _ => (pg_name (i := 4) nd rfl (Or.inl rfl))) (fun _ _ _ _ _ => (pts_one (pt_cmpR op_ne (pe_op op_mod (pv 4) (pv 1)) pe_int (nomark _)))) (fun _ _ _ _ _ => (pe_op op_sub (pv 1) (pe_op op_mod (pv 4) (pv 1)))))))
    (pss_cons (ps_set (i := 3) nd rfl (Or.inl rfl) (pe_callB (cr_sortedSet rfl) rfl (Z.free "sorted") boot_sorted (pa_cons (pe_sci (own := [("shift", 5)]) (g := (gName 5)) (tt := tYes) rfl nd (pi_list (pv 2)) (blkOk_by (own := [("shift", 5)]) (N := N_pieces_of) (sc := (defScope st_pieces_of)) (by decide +kernel)) (fun _ _ _ _ _ => (pg_name (i := 5) nd rfl (Or.inl rfl))) (fun _ _ _ _ _ => pts_nil) (fun _ _ _ _ _ => (pv 5))) pa_nil)))
    (pss_one (ps_ret (pe_zipL rfl rfl (Z.free "list") rfl (Z.free "zip") boot_list (pa_cons (pv 3) (pa_cons (pe_op op_cat (pe_slice sl_list (pv 3) (po_some pe_int) po_none) (pe_lst (pa_cons (pv 1) pa_nil))) pa_nil)))))))
abbrev N_values_of : List Str := (["runs", "deal", "scale", "way", "found", "borders", "parts", "first", "after", "place", "units"] : List Str)
theorem sc_values_of : FnScope N_values_of (["runs", "deal", "scale", "way"] : List Str) (defScope st_values_of) := ⟨rfl, rfl, rfl, by decide +kernel, rfl, by decide +kernel, by decide +kernel⟩
theorem w_values_of (Z : Bas K mg) (F_borders_of : Fct P w K mg base 2 "borders_of" (["runs"] : List Str) (sp_borders_of K)) (F_dealt_of : Fct P w K mg base 5 "dealt_of" (["borders", "parts", "deal", "way"] : List Str) (sp_dealt_of K)) (F_parts_of : Fct P w K mg base 8 "parts_of" (["runs", "scale", "way"] : List Str) (sp_parts_of K)) (F_pieces_of : Fct P w K mg base 3 "pieces_of" (["runs", "block"] : List Str) (sp_pieces_of K)) (MkD : MkrD P w K mg base 5) {f : Addr} {cdv : Value} {A : Around} {outer : List PySem.Env} {s : Shared} {H : Hp} {E : XK} (hr : Room 8 (A.deeper (envOfC "values_of" (defScope st_values_of) s.heap.objs.size f cdv))) :
    PSs (cxOf CX0 P w K mg base N_values_of "values_of" (defScope st_values_of) f cdv A outer s H E).nox (defBody st_values_of) (t_values_of w K) := by
  have nd : (N_values_of).Nodup := sc_values_of.nd
  exact (pss_cons (ps_par3 (i := 4) (j := 5) (l := 6) rfl nd rfl rfl rfl (by decide) (by decide) (by decide) rfl rfl rfl (pa_cons (pe_lst pa_nil) (pa_cons (pe_f F_borders_of hr (by decide) (pa_cons (pv 0) pa_nil)) (pa_cons (pe_f F_parts_of hr (by decide) (pa_cons (pv 0) (pa_cons (pv 2) (pa_cons (pv 3) pa_nil)))) pa_nil))) rfl)
    (pss_cons (ps_for PassesOwn.never rfl (pi_list (pe_f F_pieces_of hr (by decide) (pa_cons (pv 0) (pa_cons (pe_fld (pv 1) rfl) pa_nil)))) (pg_tup rfl (pgs_cons (pg_name (i := 7) nd rfl (Or.inl rfl)) (pgs_cons (pg_name (i := 8) nd rfl (Or.inl rfl)) pgs_nil))) (pss_one (ps_for PassesOwn.never rfl (pi_range1 rfl (Z.free "range") (pa_cons (pe_callB (call_min2 rfl) rfl (Z.free "min") boot_min (pa_cons pe_int (pa_cons (pe_op op_sub (pv 8) (pv 7)) pa_nil))) pa_nil)) (pg_name (i := 9) nd rfl (Or.inl rfl)) (pss_cons (ps_set (i := 10) nd rfl (Or.inl rfl) (pe_f F_dealt_of hr (by decide) (pa_cons (pv 5) (pa_cons (pv 6) (pa_cons (pe_mkD MkD hr (by decide) (pa_cons (pe_fld (pv 1) rfl) (pa_cons (pe_fld (pv 1) rfl) (pa_cons (pe_op op_add (pv 7) (pv 9)) pa_nil)))) (pa_cons (pv 3) pa_nil))))))
    (pss_one (ps_expr (pe_bm PySem.F.plainAttrs_list PySem.F.slot_list_append PySem.F.type_list_append mt_append (pv 4) (pa_cons (pe_tup (pa_cons (pv 10) (pa_cons (pe_op op_add (pv 7) (pv 9)) (pa_cons (pe_ifExp (pt_truth (pv 9) (fun _ => rfl)) (pe_op op_fdivW (pe_op op_add (pe_op op_sub (pe_op op_sub (pv 8) (pv 7)) (pv 9)) pe_int) pe_int) pe_int) pa_nil)))) pa_nil))))))))
    (pss_one (ps_ret (pv 4)))))
abbrev N_asked_values : List Str := (["entries", "deal", "scale", "way", "runs"] : List Str)
theorem sc_asked_values : FnScope N_asked_values (["entries", "deal", "scale", "way"] : List Str) (defScope st_asked_values) := ⟨rfl, rfl, rfl, by decide +kernel, rfl, by decide +kernel, by decide +kernel⟩
theorem w_asked_values (Z : Bas K mg) (F_need_deal : Fct P w K mg base 2 "need_deal" (["value"] : List Str) (sp_need_deal K)) (F_need_told_shiftsums : Fct P w K mg base 9 "need_told_shiftsums" (["runs", "scale", "way"] : List Str) (sp_need_told_shiftsums K)) (F_need_way : Fct P w K mg base 2 "need_way" (["value"] : List Str) (sp_need_way K)) (F_need_whole : Fct P w K mg base 4 "need_whole" (["value"] : List Str) (sp_need_whole K)) (F_runs_of : Fct P w K mg base 6 "runs_of" (["entries"] : List Str) (sp_runs_of K)) (F_values_of : Fct P w K mg base 9 "values_of" (["runs", "deal", "scale", "way"] : List Str) (sp_values_of K)) {f : Addr} {cdv : Value} {A : Around} {outer : List PySem.Env} {s : Shared} {H : Hp} {E : XK} (hr : Room 9 (A.deeper (envOfC "asked_values" (defScope st_asked_values) s.heap.objs.size f cdv))) :
    PSs (cxOf CX0 P w K mg base N_asked_values "asked_values" (defScope st_asked_values) f cdv A outer s H E).nox (defBody st_asked_values) (t_asked_values w K) := by
  have nd : (N_asked_values).Nodup := sc_asked_values.nd
  exact (pss_cons (ps_set (i := 4) nd rfl (Or.inl rfl) (pe_f F_runs_of hr (by decide) (pa_cons (pv 0) pa_nil)))
    (pss_cons (ps_expr (pe_f F_need_deal hr (by decide) (pa_cons (pv 1) pa_nil)))
    (pss_cons (ps_expr (pe_f F_need_whole hr (by decide) (pa_cons (pv 2) pa_nil)))
    (pss_cons (ps_expr (pe_f F_need_way hr (by decide) (pa_cons (pv 3) pa_nil)))
    (pss_cons (ps_expr (pe_f F_need_told_shiftsums hr (by decide) (pa_cons (pv 4) (pa_cons (pv 2) (pa_cons (pv 3) pa_nil)))))
    (pss_one (ps_ret (pe_f F_values_of hr (by decide) (pa_cons (pv 4) (pa_cons (pv 1) (pa_cons (pv 2) (pa_cons (pv 3) pa_nil))))))))))))
abbrev N_shift_totals : List Str := (["entries", "deal", "scale", "way", "counts", "units", "shift", "many", "key"] : List Str)
theorem sc_shift_totals : FnScope N_shift_totals (["entries", "deal", "scale", "way"] : List Str) (defScope st_shift_totals) := ⟨rfl, rfl, rfl, by decide +kernel, rfl, by decide +kernel, by decide +kernel⟩
theorem w_shift_totals (Z : Bas K mg) (F_asked_values : Fct P w K mg base 10 "asked_values" (["entries", "deal", "scale", "way"] : List Str) (sp_asked_values K)) (MkW : MkrW P w K mg base 5) {f : Addr} {cdv : Value} {A : Around} {outer : List PySem.Env} {s : Shared} {H : Hp} {E : XK} (hr : Room 10 (A.deeper (envOfC "shift_totals" (defScope st_shift_totals) s.heap.objs.size f cdv))) :
    PSs (cxOf CX0 P w K mg base N_shift_totals "shift_totals" (defScope st_shift_totals) f cdv A outer s H E).nox (defBody st_shift_totals) (t_shift_totals w K) := by
  have nd : (N_shift_totals).Nodup := sc_shift_totals.nd
  exact (pss_cons (ps_set (i := 4) nd rfl (Or.inr rfl) pe_dnewK)
    (pss_cons (ps_for PassesOwn.never rfl (pi_list (pe_f F_asked_values hr (by decide) (pa_cons (pv 0) (pa_cons (pv 1) (pa_cons (pv 2) (pa_cons (pv 3) pa_nil)))))) (pg_tup rfl (pgs_cons (pg_name (i := 5) nd rfl (Or.inl rfl)) (pgs_cons (pg_name (i := 6) nd rfl (Or.inl rfl)) (pgs_cons (pg_name (i := 7) nd rfl (Or.inl rfl)) pgs_nil)))) (pss_one (ps_dput (hu_of hr) (pv 4) (pv 5) (pe_op op_add (pe_dget2 (hu_of hr) (pv 4) (pv 5) pe_int ⟨rfl, rfl, rfl, rfl⟩) (pv 7)) rfl)))
    (pss_one (ps_ret (pe_callTy call_tuple_of rfl (Z.free "tuple") boot_tuple (pa_cons (pe_lc (own := [("units", 5)]) (g := (gName 5)) (tt := tYes) rfl nd (pi_list (pe_callB cr_sorted rfl (Z.free "sorted") boot_sorted (pa_cons (pe_lock (pe_lc (own := [("key", 8)]) (g := (gName 8)) (tt := tYes) rfl nd (pi_keys (pv 4)) (blkOk_by (own := [("key", 8)]) (N := N_shift_totals) (sc := (defScope st_shift_totals)) (by decide +kernel)) (fun _ _ _ _ _ => (pg_name (i := 8) nd rfl (Or.inl rfl))) (fun _ _ _ _ _ => pts_nil) (fun _ _ _ _ _ => (pe_callTy call_int1 rfl (Z.free "int") boot_int (pa_cons (pv 8) pa_nil))))) pa_nil))) (blkOk_by (own := [("units", 5)]) (N := N_shift_totals) (sc := (defScope st_shift_totals)) (by decide +kernel)) (fun _ _ _ _ _ => (pg_name (i := 5) nd rfl (Or.inl rfl))) (fun _ _ _ _ _ => pts_nil) (fun _ _ _ _ _ => (pe_tup (pa_cons (pe_mkW MkW hr (by decide) (pa_cons (pv 5) (pa_cons (pv 2) pa_nil))) (pa_cons (pe_dget (hu_of hr) (pv 4) (pv 5) (fun _ _ => rfl)) pa_nil))))) pa_nil))))))
abbrev N_least_shift : List Str := (["entries", "deal", "scale", "way", "units", "shift", "many"] : List Str)
theorem sc_least_shift : FnScope N_least_shift (["entries", "deal", "scale", "way"] : List Str) (defScope st_least_shift) := ⟨rfl, rfl, rfl, by decide +kernel, rfl, by decide +kernel, by decide +kernel⟩
theorem w_least_shift (Z : Bas K mg) (F_asked_values : Fct P w K mg base 10 "asked_values" (["entries", "deal", "scale", "way"] : List Str) (sp_asked_values K)) (MkW : MkrW P w K mg base 5) {f : Addr} {cdv : Value} {A : Around} {outer : List PySem.Env} {s : Shared} {H : Hp} {E : XK} (hr : Room 10 (A.deeper (envOfC "least_shift" (defScope st_least_shift) s.heap.objs.size f cdv))) :
    PSs (cxOf CX0 P w K mg base N_least_shift "least_shift" (defScope st_least_shift) f cdv A outer s H E).nox (defBody st_least_shift) (t_least_shift w K) := by
  have nd : (N_least_shift).Nodup := sc_least_shift.nd
  exact (pss_cons (ps_asg (pe_ix ix_list (pe_callB (cr_sortT (hu4 hr)) rfl (Z.free "sorted") boot_sorted (pa_cons (pe_f F_asked_values hr (by decide) (pa_cons (pv 0) (pa_cons (pv 1) (pa_cons (pv 2) (pa_cons (pv 3) pa_nil))))) pa_nil)) pe_int (fun _ _ => rfl)) (pg_tup rfl (pgs_cons (pg_name (i := 4) nd rfl (Or.inl rfl)) (pgs_cons (pg_name (i := 5) nd rfl (Or.inl rfl)) (pgs_cons (pg_name (i := 6) nd rfl (Or.inl rfl)) pgs_nil)))))
    (pss_one (ps_ret (pe_tup (pa_cons (pe_mkW MkW hr (by decide) (pa_cons (pv 4) (pa_cons (pv 2) pa_nil))) (pa_cons (pv 5) pa_nil))))))
abbrev N_greatest_shift : List Str := (["entries", "deal", "scale", "way", "values", "units", "shift", "many"] : List Str)
theorem sc_greatest_shift : FnScope N_greatest_shift (["entries", "deal", "scale", "way"] : List Str) (defScope st_greatest_shift) := ⟨rfl, rfl, rfl, by decide +kernel, rfl, by decide +kernel, by decide +kernel⟩
theorem w_greatest_shift (Z : Bas K mg) (F_asked_values : Fct P w K mg base 10 "asked_values" (["entries", "deal", "scale", "way"] : List Str) (sp_asked_values K)) (MkW : MkrW P w K mg base 5) {f : Addr} {cdv : Value} {A : Around} {outer : List PySem.Env} {s : Shared} {H : Hp} {E : XK} (hr : Room 10 (A.deeper (envOfC "greatest_shift" (defScope st_greatest_shift) s.heap.objs.size f cdv))) :
    PSs (cxOf CX0 P w K mg base N_greatest_shift "greatest_shift" (defScope st_greatest_shift) f cdv A outer s H E).nox (defBody st_greatest_shift) (t_greatest_shift w K) := by
  have nd : (N_greatest_shift).Nodup := sc_greatest_shift.nd
  exact (pss_cons (ps_setLc (i := 4) (own := [("units", 5), ("shift", 6), ("many", 7)]) (g := (gTup K 3 (gCons (gName 5) (gCons (gName 6) (gCons (gName 7) gNil))))) (tt := tYes) rfl nd rfl rfl (sw_true rfl rfl rfl (by decide +kernel)) (pi_list (pe_f F_asked_values hr (by decide) (pa_cons (pv 0) (pa_cons (pv 1) (pa_cons (pv 2) (pa_cons (pv 3) pa_nil)))))) (blkOk_by (own := [("units", 5), ("shift", 6), ("many", 7)]) (N := N_greatest_shift) (sc := (defScope st_greatest_shift)) (by decide +kernel)) (fun _ _ _ _ _ => (pg_tup rfl (pgs_cons (pg_name (i := 5) nd rfl (Or.inl rfl)) (pgs_cons (pg_name (i := 6) nd rfl (Or.inl rfl)) (pgs_cons (pg_name (i := 7) nd rfl (Or.inl rfl)) pgs_nil))))) (fun _ _ _ _ _ => pts_nil) (fun _ _ _ _ _ => (pe_tup (pa_cons (pe_un un_neg (pv 5)) (pa_cons (pv 6) pa_nil)))))
    (pss_cons (ps_asg (pe_ix ix_list (pe_callB (cr_sortT (hu4 hr)) rfl (Z.free "sorted") boot_sorted (pa_cons (pv 4) pa_nil)) pe_int (fun _ _ => rfl)) (pg_tup rfl (pgs_cons (pg_name (i := 5) nd rfl (Or.inl rfl)) (pgs_cons (pg_name (i := 6) nd rfl (Or.inl rfl)) pgs_nil))))
    (pss_one (ps_ret (pe_tup (pa_cons (pe_mkW MkW hr (by decide) (pa_cons (pe_un un_neg (pv 5)) (pa_cons (pv 2) pa_nil))) (pa_cons (pv 6) pa_nil)))))))
abbrev N__law_rising : List Str := (["_law_worths", "_law_at"] : List Str)
theorem sc__law_rising : FnScope N__law_rising (["_law_worths"] : List Str) (defScope st__law_rising) := ⟨rfl, rfl, rfl, by decide +kernel, rfl, by decide +kernel, by decide +kernel⟩
theorem w__law_rising (Z : Bas K mg) (F_compare : Fct P w K mg base 8 "compare" (["one", "other"] : List Str) (sp_compare K)) {f : Addr} {cdv : Value} {A : Around} {outer : List PySem.Env} {s : Shared} {H : Hp} {E : XK} (hr : Room 8 (A.deeper (envOfC "_law_rising" (defScope st__law_rising) s.heap.objs.size f cdv))) :
    PSs (cxOf CX0 P w K mg base N__law_rising "_law_rising" (defScope st__law_rising) f cdv A outer s H E).nox (defBody st__law_rising) (t__law_rising w K) := by
  have nd : (N__law_rising).Nodup := sc__law_rising.nd
  exact (pss_one (ps_ret (pe_callB (cr_all rfl) rfl (Z.free "all") boot_all (pa_cons (pe_lc (own := [("_law_at", 1)]) (g := (gName 1)) (tt := tYes) rfl nd (pi_range1 rfl (Z.free "range") (pa_cons (pe_op op_sub (pe_callB call_len_seq rfl (Z.free "len") boot_len (pa_cons (pv 0) pa_nil)) pe_int) pa_nil)) (blkOk_by (own := [("_law_at", 1)]) (N := N__law_rising) (sc := (defScope st__law_rising)) (by decide +kernel)) (fun _ _ _ _ _ => (pg_name (i := 1) nd rfl (Or.inl rfl))) (fun _ _ _ _ _ => pts_nil) (fun _ _ _ _ _ => (pe_cmpR op_lt (pe_f F_compare hr (by decide) (pa_cons (pe_ix ix_list (pv 0) (pv 1) (fun _ _ => rfl)) (pa_cons (pe_ix ix_list (pv 0) (pe_op op_add (pv 1) pe_int) (fun _ _ => rfl)) pa_nil))) pe_int (nomark _)))) pa_nil))))
abbrev N__law_ends : List Str := (["_law_entries_here", "_law_manner", "_law_houses", "_law_found"] : List Str)
theorem sc__law_ends : FnScope N__law_ends (["_law_entries_here", "_law_manner", "_law_houses"] : List Str) (defScope st__law_ends) := ⟨rfl, rfl, rfl, by decide +kernel, rfl, by decide +kernel, by decide +kernel⟩
theorem w__law_ends (Z : Bas K mg) (F_given_range : Fct P w K mg base 10 "given_range" (["entries", "scale", "way", "houses"] : List Str) (sp_given_range K)) (MkW : MkrW P w K mg base 5) {f : Addr} {cdv : Value} {A : Around} {outer : List PySem.Env} {s : Shared} {H : Hp} {E : XK} (hr : Room 10 (A.deeper (envOfC "_law_ends" (defScope st__law_ends) s.heap.objs.size f cdv))) :
    PSs (cxOf CX0 P w K mg base N__law_ends "_law_ends" (defScope st__law_ends) f cdv A outer s H E).nox (defBody st__law_ends) (t__law_ends w K) := by
  have nd : (N__law_ends).Nodup := sc__law_ends.nd
  exact (pss_cons (ps_set (i := 3) nd rfl (Or.inl rfl) (pe_f F_given_range hr (by decide) (pa_cons (pv 0) (pa_cons pe_int (pa_cons (pv 1) (pa_cons (pv 2) pa_nil))))))
    (pss_one (ps_ret (pe_ifExp (PW.pt (pw_and (pt_val (pe_callB call_isi rfl (Z.free "isinstance") boot_isinstance (pa_cons (pv 3) (pa_cons (pe_bltn rfl (Z.free "tuple") boot_tuple rfl) pa_nil)))) (pw_and1 (pt_cmpR op_eq (pe_callB call_len_seq rfl (Z.free "len") boot_len (pa_cons (pv 3) pa_nil)) pe_int (nomark _))))) (pv 3) (pe_tup (pa_cons (pe_mkW1 MkW hr (by decide) (pa_cons pe_int pa_nil)) (pa_cons (pe_mkW1 MkW hr (by decide) (pa_cons pe_int pa_nil)) pa_nil)))))))
abbrev N__law_shifts_right : List Str := (["_law_entries_here", "_law_deal", "_law_manner", "_law_low", "_law_high", "_law_total", "_law_least", "_law_greatest", "_law_worth", "_law_shift", "_law_moved", "_law_told", "_law_pair"] : List Str)
theorem sc__law_shifts_right : FnScope N__law_shifts_right (["_law_entries_here", "_law_deal", "_law_manner", "_law_low", "_law_high"] : List Str) (defScope st__law_shifts_right) := ⟨rfl, rfl, rfl, by decide +kernel, rfl, by decide +kernel, by decide +kernel⟩
theorem w__law_shifts_right (Z : Bas K mg) (F__law_rising : Fct P w K mg base 9 "_law_rising" (["_law_worths"] : List Str) (sp__law_rising K)) (F_dealt_total : Fct P w K mg base 9 "dealt_total" (["entries", "deal", "scale", "way"] : List Str) (sp_dealt_total K)) (F_greatest_shift : Fct P w K mg base 11 "greatest_shift" (["entries", "deal", "scale", "way"] : List Str) (sp_greatest_shift K)) (F_least_shift : Fct P w K mg base 11 "least_shift" (["entries", "deal", "scale", "way"] : List Str) (sp_least_shift K)) (F_shift_totals : Fct P w K mg base 11 "shift_totals" (["entries", "deal", "scale", "way"] : List Str) (sp_shift_totals K)) (Meq : Mtd P w K mg base 2 (cW K) "__eq__" (["self", "other"] : List Str) (spEqW K)) (MkD : MkrD P w K mg base 5) {f : Addr} {cdv : Value} {A : Around} {outer : List PySem.Env} {s : Shared} {H : Hp} {E : XK} (hr : Room 11 (A.deeper (envOfC "_law_shifts_right" (defScope st__law_shifts_right) s.heap.objs.size f cdv))) :
    PSs (cxOf CX0 P w K mg base N__law_shifts_right "_law_shifts_right" (defScope st__law_shifts_right) f cdv A outer s H E).nox (defBody st__law_shifts_right) (t__law_shifts_right w K) := by
  have nd : (N__law_shifts_right).Nodup := sc__law_shifts_right.nd
  exact (pss_cons (ps_set (i := 5) nd rfl (Or.inl rfl) (pe_f F_dealt_total hr (by decide) (pa_cons (pv 0) (pa_cons (pv 1) (pa_cons pe_int (pa_cons (pv 2) pa_nil))))))
    (pss_cons (ps_par (i := 6) (j := 7) rfl nd rfl rfl (by decide) rfl rfl (pa_cons (pe_f F_least_shift hr (by decide) (pa_cons (pv 0) (pa_cons (pv 1) (pa_cons pe_int (pa_cons (pv 2) pa_nil))))) (pa_cons (pe_f F_greatest_shift hr (by decide) (pa_cons (pv 0) (pa_cons (pv 1) (pa_cons pe_int (pa_cons (pv 2) pa_nil))))) pa_nil)) rfl)
    (pss_cons (ps_if (pt_not (pt_val (pe_f F__law_rising hr (by decide) (pa_cons (pe_lst (pa_cons (pv 3) (pa_cons (pe_ix ix_tup (pv 6) pe_int (fun _ _ => rfl)) (pa_cons (pv 5) (pa_cons (pe_ix ix_tup (pv 7) pe_int (fun _ _ => rfl)) (pa_cons (pv 4) pa_nil)))))) pa_nil)))) (pss_one (ps_ret pe_bl)) pss_nil)
    (pss_cons (ps_for PassesOwn.never rfl (pi_list (pe_lst (pa_cons (pv 6) (pa_cons (pv 7) pa_nil)))) (pg_tup rfl (pgs_cons (pg_name (i := 8) nd rfl (Or.inl rfl)) (pgs_cons (pg_name (i := 9) nd rfl (Or.inl rfl)) pgs_nil))) (pss_cons (ps_set (i := 10) nd rfl (Or.inl rfl) (pe_mkD MkD hr (by decide) (pa_cons (pe_fld (pv 1) rfl) (pa_cons (pe_fld (pv 1) rfl) (pa_cons (pv 9) pa_nil)))))
    (pss_one (ps_if (PW.pt (pw_or (pt_not (pt_chain op_le op_lt pe_int (pv 9) (pe_fld (pv 1) rfl))) (pw_or1 (pt_cmpR (op_neW Meq Z.ne Z.isW.hm hr (by decide)) (pe_f F_dealt_total hr (by decide) (pa_cons (pv 0) (pa_cons (pv 10) (pa_cons pe_int (pa_cons (pv 2) pa_nil))))) (pv 8) (nomark _))))) (pss_one (ps_ret pe_bl)) pss_nil))))
    (pss_cons (ps_set (i := 11) nd rfl (Or.inl rfl) (pe_f F_shift_totals hr (by decide) (pa_cons (pv 0) (pa_cons (pv 1) (pa_cons pe_int (pa_cons (pv 2) pa_nil))))))
    (pss_cons (ps_if (PW.pt (pw_or (pt_cmpR (op_neW Meq Z.ne Z.isW.hm hr (by decide)) (pe_ix ix_tup (pe_ix ix_tup (pv 11) pe_int (fun _ _ => rfl)) pe_int (fun _ _ => rfl)) (pe_ix ix_tup (pv 6) pe_int (fun _ _ => rfl)) (nomark _)) (pw_or (pt_cmpR (op_neW Meq Z.ne Z.isW.hm hr (by decide)) (pe_ix ix_tup (pe_ix ix_tup (pv 11) (pe_un un_neg pe_int) (fun _ _ => rfl)) pe_int (fun _ _ => rfl)) (pe_ix ix_tup (pv 7) pe_int (fun _ _ => rfl)) (nomark _)) (pw_or1 (pt_cmpR op_ne (pe_callB (cr_sum rfl) rfl (Z.free "sum") boot_sum (pa_cons (pe_lc (own := [("_law_pair", 12)]) (g := (gName 12)) (tt := tYes) rfl nd (pi_tup (pv 11)) (blkOk_by (own := [("_law_pair", 12)]) (N := N__law_shifts_right) (sc := (defScope st__law_shifts_right)) (by decide +kernel)) (fun _ _ _ _ _ => (pg_name (i := 12) nd rfl (Or.inl rfl))) (fun _ _ _ _ _ => pts_nil) (fun _ _ _ _ _ => (pe_ix ix_tup (pv 12) pe_int (fun _ _ => rfl)))) pa_nil)) (pe_fld (pv 1) rfl) (nomark _)))))) (pss_one (ps_ret pe_bl)) pss_nil)
    (pss_one (ps_ret (pe_cmpR (op_inWL Meq hr (by decide)) (pv 5) (pe_lc (own := [("_law_pair", 12)]) (g := (gName 12)) (tt := tYes) rfl nd (pi_tup (pv 11)) (blkOk_by (own := [("_law_pair", 12)]) (N := N__law_shifts_right) (sc := (defScope st__law_shifts_right)) (by decide +kernel)) (fun _ _ _ _ _ => (pg_name (i := 12) nd rfl (Or.inl rfl))) (fun _ _ _ _ _ => pts_nil) (fun _ _ _ _ _ => (pe_ix ix_tup (pv 12) pe_int (fun _ _ => rfl)))) (by rfl))))))))))
abbrev N__law_giving_right : List Str := (["_law_entries_here", "_law_manner", "_law_houses", "_law_near", "_law_next_one", "_law_enough", "_law_far", "_law_at"] : List Str)
theorem sc__law_giving_right : FnScope N__law_giving_right (["_law_entries_here", "_law_manner", "_law_houses"] : List Str) (defScope st__law_giving_right) := ⟨rfl, rfl, rfl, by decide +kernel, rfl, by decide +kernel, by decide +kernel⟩
theorem w__law_giving_right (Z : Bas K mg) (F__law_ends : Fct P w K mg base 11 "_law_ends" (["_law_entries_here", "_law_manner", "_law_houses"] : List Str) (sp__law_ends K)) (F__law_rising : Fct P w K mg base 9 "_law_rising" (["_law_worths"] : List Str) (sp__law_rising K)) (F_houses_enough : Fct P w K mg base 11 "houses_enough" (["entries", "scale", "way"] : List Str) (sp_houses_enough K)) (Meq : Mtd P w K mg base 2 (cW K) "__eq__" (["self", "other"] : List Str) (spEqW K)) {f : Addr} {cdv : Value} {A : Around} {outer : List PySem.Env} {s : Shared} {H : Hp} {E : XK} (hr : Room 11 (A.deeper (envOfC "_law_giving_right" (defScope st__law_giving_right) s.heap.objs.size f cdv))) :
    PSs (cxOf CX0 P w K mg base N__law_giving_right "_law_giving_right" (defScope st__law_giving_right) f cdv A outer s H E).nox (defBody st__law_giving_right) (t__law_giving_right w K) := by
  have nd : (N__law_giving_right).Nodup := sc__law_giving_right.nd
  exact (pss_cons (ps_par (i := 3) (j := 4) rfl nd rfl rfl (by decide) rfl rfl (pa_cons (pe_f F__law_ends hr (by decide) (pa_cons (pv 0) (pa_cons (pv 1) (pa_cons (pv 2) pa_nil)))) (pa_cons (pe_f F__law_ends hr (by decide) (pa_cons (pv 0) (pa_cons (pv 1) (pa_cons (pe_op op_add (pv 2) pe_int) pa_nil)))) pa_nil)) rfl)
    (pss_cons (ps_if (pt_not (pt_val (pe_f F__law_rising hr (by decide) (pa_cons (pe_lst (pa_cons (pe_ix ix_tup (pv 4) pe_int (fun _ _ => rfl)) (pa_cons (pe_ix ix_tup (pv 3) pe_int (fun _ _ => rfl)) (pa_cons (pe_ix ix_tup (pv 3) pe_int (fun _ _ => rfl)) (pa_cons (pe_ix ix_tup (pv 4) pe_int (fun _ _ => rfl)) pa_nil))))) pa_nil)))) (pss_one (ps_ret pe_bl)) pss_nil)
    (pss_cons (ps_par (i := 5) (j := 6) rfl nd rfl rfl (by decide) rfl rfl (pa_cons (pe_f F_houses_enough hr (by decide) (pa_cons (pv 0) (pa_cons pe_int (pa_cons (pv 1) pa_nil)))) (pa_cons (pe_f F__law_ends hr (by decide) (pa_cons (pv 0) (pa_cons (pv 1) (pa_cons (pe_op op_pow pe_int pe_int) pa_nil)))) pa_nil)) rfl)
    (pss_cons (ps_for PassesOwn.never rfl (pi_range1 rfl (Z.free "range") (pa_cons pe_int pa_nil)) (pg_name (i := 7) nd rfl (Or.inl rfl)) (pss_cons (ps_if (PW.pt (pw_or (pt_cmpR op_lt (pe_ix ix_tup (pv 5) (pv 7) (fun _ _ => rfl)) pe_int (nomark _)) (pw_or1 (pt_cmpR (op_neW Meq Z.ne Z.isW.hm hr (by decide)) (pe_ix ix_tup (pe_f F__law_ends hr (by decide) (pa_cons (pv 0) (pa_cons (pv 1) (pa_cons (pe_ix ix_tup (pv 5) (pv 7) (fun _ _ => rfl)) pa_nil)))) (pv 7) (fun _ _ => rfl)) (pe_ix ix_tup (pv 6) (pv 7) (fun _ _ => rfl)) (nomark _))))) (pss_one (ps_ret pe_bl)) pss_nil)
    (pss_one (ps_if (PW.pt (pw_and (pt_cmpR op_gt (pe_ix ix_tup (pv 5) (pv 7) (fun _ _ => rfl)) pe_int (nomark _)) (pw_and1 (pt_cmpR (op_eqW Meq hr (by decide)) (pe_ix ix_tup (pe_f F__law_ends hr (by decide) (pa_cons (pv 0) (pa_cons (pv 1) (pa_cons (pe_op op_sub (pe_ix ix_tup (pv 5) (pv 7) (fun _ _ => rfl)) pe_int) pa_nil)))) (pv 7) (fun _ _ => rfl)) (pe_ix ix_tup (pv 6) (pv 7) (fun _ _ => rfl)) (nomark _))))) (pss_one (ps_ret pe_bl)) pss_nil))))
    (pss_one (ps_ret pe_bl))))))
end
end KX
/-! Every def keeps its promise. Printed by gen.py but for the first theorems. -/
namespace KX
open PySem PySem.Spec PyProof.Rows L2
section
variable {P : Program} {w : World} {K : PySem.W.Frag} {mg : Str → Option Value} {base : Heap}
abbrev BindOk (nm qual : Str) (st : Stmt) (ps : List Str) : Prop := ∀ (kV doc pm : Value) (an : Option Addr) (cdv ct : Value) (us : List Value), us.length = ps.length → bindArgs (PySem.W.fnOf nm qual (defArgs st) (defBody st) (defScope st) .none kV doc pm an cdv ct) ⟨us, []⟩ = pure (ps.zip us)
theorem mkFct {α : Type} (Z : Bas K mg) {i k : Nat} {x nm : Str} {st : Stmt} {N ps : List Str} {enc : α → List D} {pre : α → Prop} {g : α → D} {t : TS} (hi : fn[i]? = some ⟨(x, none), nm, nm, defArgs st, defBody st, defScope st, [], []⟩) (hg : gloL.contains x = true) (S : FnScope N ps (defScope st)) (hl : ∀ a, (enc a).length = ps.length) (hb : BindOk nm nm st ps)
    (body : ∀ (f : Addr) (cdv : Value) (A : Around) (outer : List PySem.Env) (s : Shared) (H : Hp) (E : XK), Room k (A.deeper (envOfC nm (defScope st) s.heap.objs.size f cdv)) → PSs (cxOf CX0 P w K mg base N nm (defScope st) f cdv A outer s H E).nox (defBody st) t)
    (law : ∀ a, pre a → ES K t ((enc a).map some ++ List.replicate (N.length - (enc a).length) none) none (fun _ _ => g a = .non) (fun d => d = g a)) : Fct P w K mg base (k + 1) x ps (spA K enc pre g) := by
  obtain ⟨fd, F⟩ := Z.c.def_ i hi
  exact ⟨_, fd, fn_D F S hl (fun cdv A outer s H E hr => ⟨t, body _ cdv A outer s H E hr, law⟩), Z.glo x hg, F.kp, F.bindsN hb⟩
theorem mkMtd {α : Type} (Z : Bas K mg) {i k : Nat} {c m qual : Str} {st : Stmt} {N ps : List Str} {enc : α → List D} {pre : α → Prop} {g : α → D} {t : TS} (hi : fn[i]? = some ⟨(c, some m), m, qual, defArgs st, defBody st, defScope st, [], []⟩) (hm : meL.contains (c, m) = true) (S : FnScope N ps (defScope st)) (hl : ∀ a, (enc a).length = ps.length) (hb : BindOk m qual st ps)
    (body : ∀ (f : Addr) (cdv : Value) (A : Around) (outer : List PySem.Env) (s : Shared) (H : Hp) (E : XK), Room k (A.deeper (envOfC qual (defScope st) s.heap.objs.size f cdv)) → PSs (cxOf CX0 P w K mg base N qual (defScope st) f cdv A outer s H E).nox (defBody st) t)
    (law : ∀ a, pre a → ES K t ((enc a).map some ++ List.replicate (N.length - (enc a).length) none) none (fun _ _ => g a = .non) (fun d => d = g a)) : Mtd P w K mg base (k + 1) (He.ga K c) m ps (spA K enc pre g) := by
  obtain ⟨fd, F⟩ := Z.c.def_ i hi
  exact ⟨_, fd, fn_D F S hl (fun cdv A outer s H E hr => ⟨t, body _ cdv A outer s H E hr, law⟩), Z.meth c m hm, F.bindsN hb⟩
theorem f_is_integer (Z : Bas K mg)  : Fct P w K mg base 2 "is_integer" (["value"] : List Str) (sp_is_integer K) :=
  mkFct Z (i := 0) (nm := "is_integer") (st := st_is_integer) (N := N_is_integer) rfl (by decide +kernel) sc_is_integer (fun _ => rfl) (fun _ _ _ _ _ _ us hl => match us, hl with | [_], _ => rfl) (fun f cdv A outer s H E hr => w_is_integer Z  hr) (fun a _ => l_is_integer Z)
theorem f_is_whole (Z : Bas K mg) (F_is_integer : Fct P w K mg base 2 "is_integer" (["value"] : List Str) (sp_is_integer K)) : Fct P w K mg base 3 "is_whole" (["value"] : List Str) (sp_is_whole K) :=
  mkFct Z (i := 1) (nm := "is_whole") (st := st_is_whole) (N := N_is_whole) rfl (by decide +kernel) sc_is_whole (fun _ => rfl) (fun _ _ _ _ _ _ us hl => match us, hl with | [_], _ => rfl) (fun f cdv A outer s H E hr => w_is_whole Z F_is_integer hr) (fun a _ => l_is_whole Z)
theorem f_need_integer (Z : Bas K mg) (F_is_integer : Fct P w K mg base 2 "is_integer" (["value"] : List Str) (sp_is_integer K)) : Fct P w K mg base 3 "need_integer" (["value"] : List Str) (sp_need_integer K) :=
  mkFct Z (i := 2) (nm := "need_integer") (st := st_need_integer) (N := N_need_integer) rfl (by decide +kernel) sc_need_integer (fun _ => rfl) (fun _ _ _ _ _ _ us hl => match us, hl with | [_], _ => rfl) (fun f cdv A outer s H E hr => w_need_integer Z F_is_integer hr) (fun a _ => l_need_integer Z)
theorem f_need_whole (Z : Bas K mg) (F_is_whole : Fct P w K mg base 3 "is_whole" (["value"] : List Str) (sp_is_whole K)) : Fct P w K mg base 4 "need_whole" (["value"] : List Str) (sp_need_whole K) :=
  mkFct Z (i := 3) (nm := "need_whole") (st := st_need_whole) (N := N_need_whole) rfl (by decide +kernel) sc_need_whole (fun _ => rfl) (fun _ _ _ _ _ _ us hl => match us, hl with | [_], _ => rfl) (fun f cdv A outer s H E hr => w_need_whole Z F_is_whole hr) (fun a p => l_need_whole Z p)
theorem f_need_positive (Z : Bas K mg) (F_is_whole : Fct P w K mg base 3 "is_whole" (["value"] : List Str) (sp_is_whole K)) : Fct P w K mg base 4 "need_positive" (["value"] : List Str) (sp_need_positive K) :=
  mkFct Z (i := 4) (nm := "need_positive") (st := st_need_positive) (N := N_need_positive) rfl (by decide +kernel) sc_need_positive (fun _ => rfl) (fun _ _ _ _ _ _ us hl => match us, hl with | [_], _ => rfl) (fun f cdv A outer s H E hr => w_need_positive Z F_is_whole hr) (fun a p => l_need_positive Z p)
theorem f_need_items (Z : Bas K mg)  : Fct P w K mg base 2 "need_items" (["value"] : List Str) (sp_need_items K) :=
  mkFct Z (i := 5) (nm := "need_items") (st := st_need_items) (N := N_need_items) rfl (by decide +kernel) sc_need_items (fun _ => rfl) (fun _ _ _ _ _ _ us hl => match us, hl with | [_], _ => rfl) (fun f cdv A outer s H E hr => w_need_items Z  hr) (fun a _ => l_need_items Z)
theorem f_ten_to (Z : Bas K mg)  : Fct P w K mg base 2 "ten_to" (["number"] : List Str) (sp_ten_to K) :=
  mkFct Z (i := 6) (nm := "ten_to") (st := st_ten_to) (N := N_ten_to) rfl (by decide +kernel) sc_ten_to (fun _ => rfl) (fun _ _ _ _ _ _ us hl => match us, hl with | [_], _ => rfl) (fun f cdv A outer s H E hr => w_ten_to Z  hr) (fun a p => l_ten_to Z p)
theorem f_lowered (Z : Bas K mg)  : Fct P w K mg base 2 "lowered" (["units", "scale"] : List Str) (sp_lowered K) :=
  mkFct Z (i := 7) (nm := "lowered") (st := st_lowered) (N := N_lowered) rfl (by decide +kernel) sc_lowered (fun _ => rfl) (fun _ _ _ _ _ _ us hl => match us, hl with | [_, _], _ => rfl) (fun f cdv A outer s H E hr => w_lowered Z  hr) (fun a p => l_lowered Z p)
theorem f_MkW (Z : Bas K mg) (F_lowered : Fct P w K mg base 2 "lowered" (["units", "scale"] : List Str) (sp_lowered K)) (F_need_integer : Fct P w K mg base 3 "need_integer" (["value"] : List Str) (sp_need_integer K)) (F_need_whole : Fct P w K mg base 4 "need_whole" (["value"] : List Str) (sp_need_whole K)) : MkrW P w K mg base 5 := by
  obtain ⟨fd, F⟩ := Z.c.def_ 8 (d := d_Worth___init__) rfl
  have full : Binds K fd (["self", "units", "scale"] : List Str) [] := by
    obtain ⟨ds, h1, h2⟩ := F.binds1 (ps := (["self", "units", "scale"] : List Str)) 3 1 (by intro z; cases z) rfl (fun T kV doc pm an cdv ct us its h1 h2 => match us, h1, its, h2 with | [_, _, _], _, [_], _ => ⟨_, rfl, rfl⟩)
    have : ds = [] := by cases h1; rfl
    rw [this] at h2
    exact h2
  have one := F.binds1 (ps := (["self", "units", "scale"] : List Str)) 2 0 (by intro z; cases z) rfl (fun T kV doc pm an cdv ct us its h1 h2 => match us, h1, its, h2 with | [_, _], _, [_], _ => ⟨_, rfl, rfl⟩)
  refine ⟨_, fd, Z.mkW, F.ok sc_Worth___init__ (fun vs H Q E h => ?_) (fun cdv A outer s H vs Q E hr h => ⟨t_Worth___init__ w K, PSs.nox (w_Worth___init__ Z F_lowered F_need_integer F_need_whole hr), l_WI Z vs H Q E h⟩), Z.glo "Worth", full, one⟩
  obtain ⟨_, _, _, _, _, rfl, _⟩ := h
  rfl
theorem f_Worth___eq__ (Z : Bas K mg)  : Mtd P w K mg base 2 (cW K) "__eq__" (["self", "other"] : List Str) (spEqW K) :=
  mkMtd Z (i := 9) (c := "Worth") (m := "__eq__") (qual := "Worth.__eq__") (st := st_Worth___eq__) (N := N_Worth___eq__) rfl (by decide +kernel) sc_Worth___eq__ (fun _ => rfl) (fun _ _ _ _ _ _ us hl => match us, hl with | [_, _], _ => rfl) (fun f cdv A outer s H E hr => w_Worth___eq__ Z  hr) (fun a _ => l_Worth___eq__ Z)
theorem f_Worth___neg__ (Z : Bas K mg) (MkW : MkrW P w K mg base 5) : Mtd P w K mg base 7 (cW K) "__neg__" (["self"] : List Str) (spNegW K) :=
  mkMtd Z (i := 10) (c := "Worth") (m := "__neg__") (qual := "Worth.__neg__") (st := st_Worth___neg__) (N := N_Worth___neg__) rfl (by decide +kernel) sc_Worth___neg__ (fun _ => rfl) (fun _ _ _ _ _ _ us hl => match us, hl with | [_], _ => rfl) (fun f cdv A outer s H E hr => w_Worth___neg__ Z MkW hr) (fun a _ => l_Worth___neg__ Z)
theorem f_Worth_sign (Z : Bas K mg)  : Mtd P w K mg base 2 (cW K) "sign" (["self"] : List Str) (sp_Worth_sign K) :=
  mkMtd Z (i := 11) (c := "Worth") (m := "sign") (qual := "Worth.sign") (st := st_Worth_sign) (N := N_Worth_sign) rfl (by decide +kernel) sc_Worth_sign (fun _ => rfl) (fun _ _ _ _ _ _ us hl => match us, hl with | [_], _ => rfl) (fun f cdv A outer s H E hr => w_Worth_sign Z  hr) (fun a _ => l_Worth_sign Z)
theorem f_Worth_units_at (Z : Bas K mg) (F_need_whole : Fct P w K mg base 4 "need_whole" (["value"] : List Str) (sp_need_whole K)) (F_ten_to : Fct P w K mg base 2 "ten_to" (["number"] : List Str) (sp_ten_to K)) : Mtd P w K mg base 5 (cW K) "units_at" (["self", "scale"] : List Str) (sp_Worth_units_at K) :=
  mkMtd Z (i := 12) (c := "Worth") (m := "units_at") (qual := "Worth.units_at") (st := st_Worth_units_at) (N := N_Worth_units_at) rfl (by decide +kernel) sc_Worth_units_at (fun _ => rfl) (fun _ _ _ _ _ _ us hl => match us, hl with | [_, _], _ => rfl) (fun f cdv A outer s H E hr => w_Worth_units_at Z F_need_whole F_ten_to hr) (fun a p => l_Worth_units_at Z p)
theorem f_need_worth (Z : Bas K mg)  : Fct P w K mg base 2 "need_worth" (["value"] : List Str) (sp_need_worth K) :=
  mkFct Z (i := 13) (nm := "need_worth") (st := st_need_worth) (N := N_need_worth) rfl (by decide +kernel) sc_need_worth (fun _ => rfl) (fun _ _ _ _ _ _ us hl => match us, hl with | [_], _ => rfl) (fun f cdv A outer s H E hr => w_need_worth Z  hr) (fun a _ => l_need_worth Z)
theorem f_worth_sum (Z : Bas K mg) (F_ten_to : Fct P w K mg base 2 "ten_to" (["number"] : List Str) (sp_ten_to K)) (MkW : MkrW P w K mg base 5) : Fct P w K mg base 7 "worth_sum" (["one", "other", "sign"] : List Str) (sp_worth_sum K) :=
  mkFct Z (i := 14) (nm := "worth_sum") (st := st_worth_sum) (N := N_worth_sum) rfl (by decide +kernel) sc_worth_sum (fun _ => rfl) (fun _ _ _ _ _ _ us hl => match us, hl with | [_, _, _], _ => rfl) (fun f cdv A outer s H E hr => w_worth_sum Z F_ten_to MkW hr) (fun a p => l_worth_sum Z p)
theorem f_compare (Z : Bas K mg) (F_need_worth : Fct P w K mg base 2 "need_worth" (["value"] : List Str) (sp_need_worth K)) (F_worth_sum : Fct P w K mg base 7 "worth_sum" (["one", "other", "sign"] : List Str) (sp_worth_sum K)) (M_Worth_sign : Mtd P w K mg base 2 (cW K) "sign" (["self"] : List Str) (sp_Worth_sign K)) : Fct P w K mg base 8 "compare" (["one", "other"] : List Str) (sp_compare K) :=
  mkFct Z (i := 15) (nm := "compare") (st := st_compare) (N := N_compare) rfl (by decide +kernel) sc_compare (fun _ => rfl) (fun _ _ _ _ _ _ us hl => match us, hl with | [_, _], _ => rfl) (fun f cdv A outer s H E hr => w_compare Z F_need_worth F_worth_sum M_Worth_sign hr) (fun a p => l_compare Z p)
theorem f_need_way (Z : Bas K mg)  : Fct P w K mg base 2 "need_way" (["value"] : List Str) (sp_need_way K) :=
  mkFct Z (i := 16) (nm := "need_way") (st := st_need_way) (N := N_need_way) rfl (by decide +kernel) sc_need_way (fun _ => rfl) (fun _ _ _ _ _ _ us hl => match us, hl with | [_], _ => rfl) (fun f cdv A outer s H E hr => w_need_way Z  hr) (fun a _ => l_need_way Z)
theorem f_lift (Z : Bas K mg)  : Fct P w K mg base 2 "lift" (["way", "part", "negative", "odd"] : List Str) (sp_lift K) :=
  mkFct Z (i := 17) (nm := "lift") (st := st_lift) (N := N_lift) rfl (by decide +kernel) sc_lift (fun _ => rfl) (fun _ _ _ _ _ _ us hl => match us, hl with | [_, _, _, _], _ => rfl) (fun f cdv A outer s H E hr => w_lift Z  hr) (fun a p => l_lift Z p)
theorem f_part_of (Z : Bas K mg)  : Fct P w K mg base 2 "part_of" (["left", "divisor"] : List Str) (sp_part_of K) :=
  mkFct Z (i := 18) (nm := "part_of") (st := st_part_of) (N := N_part_of) rfl (by decide +kernel) sc_part_of (fun _ => rfl) (fun _ _ _ _ _ _ us hl => match us, hl with | [_, _], _ => rfl) (fun f cdv A outer s H E hr => w_part_of Z  hr) (fun a p => l_part_of Z p)
theorem f_divided_by (Z : Bas K mg) (F_lift : Fct P w K mg base 2 "lift" (["way", "part", "negative", "odd"] : List Str) (sp_lift K)) (F_part_of : Fct P w K mg base 2 "part_of" (["left", "divisor"] : List Str) (sp_part_of K)) : Fct P w K mg base 3 "divided_by" (["number", "divisor", "way"] : List Str) (sp_divided_by K) :=
  mkFct Z (i := 19) (nm := "divided_by") (st := st_divided_by) (N := N_divided_by) rfl (by decide +kernel) sc_divided_by (fun _ => rfl) (fun _ _ _ _ _ _ us hl => match us, hl with | [_, _, _], _ => rfl) (fun f cdv A outer s H E hr => w_divided_by Z F_lift F_part_of hr) (fun a p => l_divided_by Z p)
theorem f_is_entry (Z : Bas K mg) (F_is_whole : Fct P w K mg base 3 "is_whole" (["value"] : List Str) (sp_is_whole K)) : Fct P w K mg base 4 "is_entry" (["value"] : List Str) (sp_is_entry K) :=
  mkFct Z (i := 20) (nm := "is_entry") (st := st_is_entry) (N := N_is_entry) rfl (by decide +kernel) sc_is_entry (fun _ => rfl) (fun _ _ _ _ _ _ us hl => match us, hl with | [_], _ => rfl) (fun f cdv A outer s H E hr => w_is_entry Z F_is_whole hr) (fun a _ => l_is_entry Z)
theorem f_need_entries (Z : Bas K mg) (F_is_entry : Fct P w K mg base 4 "is_entry" (["value"] : List Str) (sp_is_entry K)) (F_need_items : Fct P w K mg base 2 "need_items" (["value"] : List Str) (sp_need_items K)) : Fct P w K mg base 5 "need_entries" (["entries"] : List Str) (sp_need_entries K) :=
  mkFct Z (i := 21) (nm := "need_entries") (st := st_need_entries) (N := N_need_entries) rfl (by decide +kernel) sc_need_entries (fun _ => rfl) (fun _ _ _ _ _ _ us hl => match us, hl with | [_], _ => rfl) (fun f cdv A outer s H E hr => w_need_entries Z F_is_entry F_need_items hr) (fun a p => l_need_entries Z p)
theorem f_need_asked (Z : Bas K mg) (F_need_entries : Fct P w K mg base 5 "need_entries" (["entries"] : List Str) (sp_need_entries K)) (F_need_way : Fct P w K mg base 2 "need_way" (["value"] : List Str) (sp_need_way K)) (F_need_whole : Fct P w K mg base 4 "need_whole" (["value"] : List Str) (sp_need_whole K)) : Fct P w K mg base 6 "need_asked" (["entries", "scale", "way"] : List Str) (sp_need_asked K) :=
  mkFct Z (i := 22) (nm := "need_asked") (st := st_need_asked) (N := N_need_asked) rfl (by decide +kernel) sc_need_asked (fun _ => rfl) (fun _ _ _ _ _ _ us hl => match us, hl with | [_, _, _], _ => rfl) (fun f cdv A outer s H E hr => w_need_asked Z F_need_entries F_need_way F_need_whole hr) (fun a p => l_need_asked Z p)
theorem f_in_parts (Z : Bas K mg) (F_ten_to : Fct P w K mg base 2 "ten_to" (["number"] : List Str) (sp_ten_to K)) (M_Worth_units_at : Mtd P w K mg base 5 (cW K) "units_at" (["self", "scale"] : List Str) (sp_Worth_units_at K)) : Fct P w K mg base 6 "in_parts" (["worth", "scale"] : List Str) (sp_in_parts K) :=
  mkFct Z (i := 23) (nm := "in_parts") (st := st_in_parts) (N := N_in_parts) rfl (by decide +kernel) sc_in_parts (fun _ => rfl) (fun _ _ _ _ _ _ us hl => match us, hl with | [_, _], _ => rfl) (fun f cdv A outer s H E hr => w_in_parts Z F_ten_to M_Worth_units_at hr) (fun a p => l_in_parts Z p)
theorem f_loose_parts (Z : Bas K mg) (F_divided_by : Fct P w K mg base 3 "divided_by" (["number", "divisor", "way"] : List Str) (sp_divided_by K)) (F_in_parts : Fct P w K mg base 6 "in_parts" (["worth", "scale"] : List Str) (sp_in_parts K)) : Fct P w K mg base 7 "loose_parts" (["worth", "scale", "way"] : List Str) (sp_loose_parts K) :=
  mkFct Z (i := 24) (nm := "loose_parts") (st := st_loose_parts) (N := N_loose_parts) rfl (by decide +kernel) sc_loose_parts (fun _ => rfl) (fun _ _ _ _ _ _ us hl => match us, hl with | [_, _, _], _ => rfl) (fun f cdv A outer s H E hr => w_loose_parts Z F_divided_by F_in_parts hr) (fun a p => l_loose_parts Z p)
theorem f_added (Z : Bas K mg)  : Fct P w K mg base 2 "added" (["state", "loose", "units", "way"] : List Str) (sp_added K) :=
  mkFct Z (i := 25) (nm := "added") (st := st_added) (N := N_added) rfl (by decide +kernel) sc_added (fun _ => rfl) (fun _ _ _ _ _ _ us hl => match us, hl with | [_, _, _, _], _ => rfl) (fun f cdv A outer s H E hr => w_added Z  hr) (fun a p => l_added Z p)
theorem f_added_often (Z : Bas K mg) (F_added : Fct P w K mg base 2 "added" (["state", "loose", "units", "way"] : List Str) (sp_added K)) : Fct P w K mg base 3 "added_often" (["state", "units", "times", "way"] : List Str) (sp_added_often K) :=
  mkFct Z (i := 26) (nm := "added_often") (st := st_added_often) (N := N_added_often) rfl (by decide +kernel) sc_added_often (fun _ => rfl) (fun _ _ _ _ _ _ us hl => match us, hl with | [_, _, _, _], _ => rfl) (fun f cdv A outer s H E hr => w_added_often Z F_added hr) (fun a p => l_added_often Z p)
theorem f_running_units (Z : Bas K mg) (F_added_often : Fct P w K mg base 3 "added_often" (["state", "units", "times", "way"] : List Str) (sp_added_often K)) (F_loose_parts : Fct P w K mg base 7 "loose_parts" (["worth", "scale", "way"] : List Str) (sp_loose_parts K)) : Fct P w K mg base 8 "running_units" (["entries", "scale", "way"] : List Str) (sp_running_units K) :=
  mkFct Z (i := 27) (nm := "running_units") (st := st_running_units) (N := N_running_units) rfl (by decide +kernel) sc_running_units (fun _ => rfl) (fun _ _ _ _ _ _ us hl => match us, hl with | [_, _, _], _ => rfl) (fun f cdv A outer s H E hr => w_running_units Z F_added_often F_loose_parts hr) (fun a p => l_running_units Z p)
theorem f_free_entries (Z : Bas K mg) (F_loose_parts : Fct P w K mg base 7 "loose_parts" (["worth", "scale", "way"] : List Str) (sp_loose_parts K)) (M_Worth_sign : Mtd P w K mg base 2 (cW K) "sign" (["self"] : List Str) (sp_Worth_sign K)) : Fct P w K mg base 8 "free_entries" (["entries", "scale", "way"] : List Str) (sp_free_entries K) :=
  mkFct Z (i := 28) (nm := "free_entries") (st := st_free_entries) (N := N_free_entries) rfl (by decide +kernel) sc_free_entries (fun _ => rfl) (fun _ _ _ _ _ _ us hl => match us, hl with | [_, _, _], _ => rfl) (fun f cdv A outer s H E hr => w_free_entries Z F_loose_parts M_Worth_sign hr) (fun a p => l_free_entries Z p)
theorem f_single_total (Z : Bas K mg) (F_divided_by : Fct P w K mg base 3 "divided_by" (["number", "divisor", "way"] : List Str) (sp_divided_by K)) (F_in_parts : Fct P w K mg base 6 "in_parts" (["worth", "scale"] : List Str) (sp_in_parts K)) (F_need_asked : Fct P w K mg base 6 "need_asked" (["entries", "scale", "way"] : List Str) (sp_need_asked K)) (MkW : MkrW P w K mg base 5) : Fct P w K mg base 7 "single_total" (["entries", "scale", "way"] : List Str) (sp_single_total K) :=
  mkFct Z (i := 29) (nm := "single_total") (st := st_single_total) (N := N_single_total) rfl (by decide +kernel) sc_single_total (fun _ => rfl) (fun _ _ _ _ _ _ us hl => match us, hl with | [_, _, _], _ => rfl) (fun f cdv A outer s H E hr => w_single_total Z F_divided_by F_in_parts F_need_asked MkW hr) (fun a p => l_single_total Z p)
theorem f_running_total (Z : Bas K mg) (F_need_asked : Fct P w K mg base 6 "need_asked" (["entries", "scale", "way"] : List Str) (sp_need_asked K)) (F_running_units : Fct P w K mg base 8 "running_units" (["entries", "scale", "way"] : List Str) (sp_running_units K)) (MkW : MkrW P w K mg base 5) : Fct P w K mg base 9 "running_total" (["entries", "scale", "way"] : List Str) (sp_running_total K) :=
  mkFct Z (i := 30) (nm := "running_total") (st := st_running_total) (N := N_running_total) rfl (by decide +kernel) sc_running_total (fun _ => rfl) (fun _ _ _ _ _ _ us hl => match us, hl with | [_, _, _], _ => rfl) (fun f cdv A outer s H E hr => w_running_total Z F_need_asked F_running_units MkW hr) (fun a p => l_running_total Z p)
theorem f_is_free (Z : Bas K mg) (F_free_entries : Fct P w K mg base 8 "free_entries" (["entries", "scale", "way"] : List Str) (sp_free_entries K)) (F_need_asked : Fct P w K mg base 6 "need_asked" (["entries", "scale", "way"] : List Str) (sp_need_asked K)) : Fct P w K mg base 9 "is_free" (["entries", "scale", "way"] : List Str) (sp_is_free K) :=
  mkFct Z (i := 31) (nm := "is_free") (st := st_is_free) (N := N_is_free) rfl (by decide +kernel) sc_is_free (fun _ => rfl) (fun _ _ _ _ _ _ us hl => match us, hl with | [_, _, _], _ => rfl) (fun f cdv A outer s H E hr => w_is_free Z F_free_entries F_need_asked hr) (fun a p => l_is_free Z p)
theorem f_even_ends (Z : Bas K mg) (F_loose_parts : Fct P w K mg base 7 "loose_parts" (["worth", "scale", "way"] : List Str) (sp_loose_parts K)) : Fct P w K mg base 8 "even_ends" (["entries", "scale"] : List Str) (sp_even_ends K) :=
  mkFct Z (i := 32) (nm := "even_ends") (st := st_even_ends) (N := N_even_ends) rfl (by decide +kernel) sc_even_ends (fun _ => rfl) (fun _ _ _ _ _ _ us hl => match us, hl with | [_, _], _ => rfl) (fun f cdv A outer s H E hr => w_even_ends Z F_loose_parts hr) (fun a p => l_even_ends Z p)
theorem f_sided_top (Z : Bas K mg) (F_loose_parts : Fct P w K mg base 7 "loose_parts" (["worth", "scale", "way"] : List Str) (sp_loose_parts K)) (M_Worth_sign : Mtd P w K mg base 2 (cW K) "sign" (["self"] : List Str) (sp_Worth_sign K)) : Fct P w K mg base 8 "sided_top" (["entries", "scale", "way"] : List Str) (sp_sided_top K) :=
  mkFct Z (i := 33) (nm := "sided_top") (st := st_sided_top) (N := N_sided_top) rfl (by decide +kernel) sc_sided_top (fun _ => rfl) (fun _ _ _ _ _ _ us hl => match us, hl with | [_, _, _], _ => rfl) (fun f cdv A outer s H E hr => w_sided_top Z F_loose_parts M_Worth_sign hr) (fun a p => l_sided_top Z p.1 p.2.1 p.2.2)
theorem f_order_range (Z : Bas K mg) (F_even_ends : Fct P w K mg base 8 "even_ends" (["entries", "scale"] : List Str) (sp_even_ends K)) (F_need_asked : Fct P w K mg base 6 "need_asked" (["entries", "scale", "way"] : List Str) (sp_need_asked K)) (F_running_units : Fct P w K mg base 8 "running_units" (["entries", "scale", "way"] : List Str) (sp_running_units K)) (F_sided_top : Fct P w K mg base 8 "sided_top" (["entries", "scale", "way"] : List Str) (sp_sided_top K)) (MkW : MkrW P w K mg base 5) (Mneg : Mtd P w K mg base 7 (cW K) "__neg__" (["self"] : List Str) (spNegW K)) : Fct P w K mg base 9 "order_range" (["entries", "scale", "way"] : List Str) (sp_order_range K) :=
  mkFct Z (i := 34) (nm := "order_range") (st := st_order_range) (N := N_order_range) rfl (by decide +kernel) sc_order_range (fun _ => rfl) (fun _ _ _ _ _ _ us hl => match us, hl with | [_, _, _], _ => rfl) (fun f cdv A outer s H E hr => w_order_range Z F_even_ends F_need_asked F_running_units F_sided_top MkW Mneg hr) (fun a p => l_order_range Z p.1 p.2)
theorem f_even_runs (Z : Bas K mg) (F_loose_parts : Fct P w K mg base 7 "loose_parts" (["worth", "scale", "way"] : List Str) (sp_loose_parts K)) : Fct P w K mg base 8 "even_runs" (["entries", "scale"] : List Str) (sp_even_runs K) :=
  mkFct Z (i := 35) (nm := "even_runs") (st := st_even_runs) (N := N_even_runs) rfl (by decide +kernel) sc_even_runs (fun _ => rfl) (fun _ _ _ _ _ _ us hl => match us, hl with | [_, _], _ => rfl) (fun f cdv A outer s H E hr => w_even_runs Z F_loose_parts hr) (fun a p => l_even_runs Z p)
theorem f_odd_houses (Z : Bas K mg)  : Fct P w K mg base 2 "odd_houses" (["odd", "times", "houses", "avoids"] : List Str) (sp_odd_houses K) :=
  mkFct Z (i := 36) (nm := "odd_houses") (st := st_odd_houses) (N := N_odd_houses) rfl (by decide +kernel) sc_odd_houses (fun _ => rfl) (fun _ _ _ _ _ _ us hl => match us, hl with | [_, _, _, _], _ => rfl) (fun f cdv A outer s H E hr => w_odd_houses Z  hr) (fun a _ => l_odd_houses Z)
theorem f_best_given (Z : Bas K mg) (F_even_runs : Fct P w K mg base 8 "even_runs" (["entries", "scale"] : List Str) (sp_even_runs K)) (F_odd_houses : Fct P w K mg base 2 "odd_houses" (["odd", "times", "houses", "avoids"] : List Str) (sp_odd_houses K)) : Fct P w K mg base 9 "best_given" (["entries", "scale", "houses"] : List Str) (sp_best_given K) :=
  mkFct Z (i := 37) (nm := "best_given") (st := st_best_given) (N := N_best_given) rfl (by decide +kernel) sc_best_given (fun _ => rfl) (fun _ _ _ _ _ _ us hl => match us, hl with | [_, _, _], _ => rfl) (fun f cdv A outer s H E hr => w_best_given Z F_even_runs F_odd_houses hr) (fun a p => l_best_given Z p)
theorem f_negated (Z : Bas K mg) (Mneg : Mtd P w K mg base 7 (cW K) "__neg__" (["self"] : List Str) (spNegW K)) : Fct P w K mg base 8 "negated" (["entries"] : List Str) (sp_negated K) :=
  mkFct Z (i := 38) (nm := "negated") (st := st_negated) (N := N_negated) rfl (by decide +kernel) sc_negated (fun _ => rfl) (fun _ _ _ _ _ _ us hl => match us, hl with | [_], _ => rfl) (fun f cdv A outer s H E hr => w_negated Z Mneg hr) (fun a p => l_negated Z p)
theorem f_need_told_giving (Z : Bas K mg) (F_free_entries : Fct P w K mg base 8 "free_entries" (["entries", "scale", "way"] : List Str) (sp_free_entries K)) : Fct P w K mg base 9 "need_told_giving" (["entries", "scale", "way"] : List Str) (sp_need_told_giving K) :=
  mkFct Z (i := 39) (nm := "need_told") (st := st_need_told_giving) (N := N_need_told_giving) rfl (by decide +kernel) sc_need_told_giving (fun _ => rfl) (fun _ _ _ _ _ _ us hl => match us, hl with | [_, _, _], _ => rfl) (fun f cdv A outer s H E hr => w_need_told_giving Z F_free_entries hr) (fun a p => l_need_told_giving Z p.1 p.2)
theorem f_given_range (Z : Bas K mg) (F_best_given : Fct P w K mg base 9 "best_given" (["entries", "scale", "houses"] : List Str) (sp_best_given K)) (F_need_asked : Fct P w K mg base 6 "need_asked" (["entries", "scale", "way"] : List Str) (sp_need_asked K)) (F_need_positive : Fct P w K mg base 4 "need_positive" (["value"] : List Str) (sp_need_positive K)) (F_need_told_giving : Fct P w K mg base 9 "need_told_giving" (["entries", "scale", "way"] : List Str) (sp_need_told_giving K)) (F_negated : Fct P w K mg base 8 "negated" (["entries"] : List Str) (sp_negated K)) (F_running_units : Fct P w K mg base 8 "running_units" (["entries", "scale", "way"] : List Str) (sp_running_units K)) (MkW : MkrW P w K mg base 5) : Fct P w K mg base 10 "given_range" (["entries", "scale", "way", "houses"] : List Str) (sp_given_range K) :=
  mkFct Z (i := 40) (nm := "given_range") (st := st_given_range) (N := N_given_range) rfl (by decide +kernel) sc_given_range (fun _ => rfl) (fun _ _ _ _ _ _ us hl => match us, hl with | [_, _, _, _], _ => rfl) (fun f cdv A outer s H E hr => w_given_range Z F_best_given F_need_asked F_need_positive F_need_told_giving F_negated F_running_units MkW hr) (fun a p => l_given_range Z p.1 p.2.1 p.2.2)
theorem f_enough (Z : Bas K mg) (F_best_given : Fct P w K mg base 9 "best_given" (["entries", "scale", "houses"] : List Str) (sp_best_given K)) : Fct P w K mg base 10 "enough" (["entries", "scale"] : List Str) (sp_enough K) :=
  mkFct Z (i := 41) (nm := "enough") (st := st_enough) (N := N_enough) rfl (by decide +kernel) sc_enough (fun _ => rfl) (fun _ _ _ _ _ _ us hl => match us, hl with | [_, _], _ => rfl) (fun f cdv A outer s H E hr => w_enough Z F_best_given hr) (fun a p => l_enough Z p)
theorem f_houses_enough (Z : Bas K mg) (F_enough : Fct P w K mg base 10 "enough" (["entries", "scale"] : List Str) (sp_enough K)) (F_need_asked : Fct P w K mg base 6 "need_asked" (["entries", "scale", "way"] : List Str) (sp_need_asked K)) (F_need_told_giving : Fct P w K mg base 9 "need_told_giving" (["entries", "scale", "way"] : List Str) (sp_need_told_giving K)) (F_negated : Fct P w K mg base 8 "negated" (["entries"] : List Str) (sp_negated K)) : Fct P w K mg base 11 "houses_enough" (["entries", "scale", "way"] : List Str) (sp_houses_enough K) :=
  mkFct Z (i := 42) (nm := "houses_enough") (st := st_houses_enough) (N := N_houses_enough) rfl (by decide +kernel) sc_houses_enough (fun _ => rfl) (fun _ _ _ _ _ _ us hl => match us, hl with | [_, _, _], _ => rfl) (fun f cdv A outer s H E hr => w_houses_enough Z F_enough F_need_asked F_need_told_giving F_negated hr) (fun a p => l_houses_enough Z p.1 p.2)
theorem f_below (Z : Bas K mg)  : Fct P w K mg base 2 "below" (["period", "length", "bound"] : List Str) (sp_below K) :=
  mkFct Z (i := 43) (nm := "below") (st := st_below) (N := N_below) rfl (by decide +kernel) sc_below (fun _ => rfl) (fun _ _ _ _ _ _ us hl => match us, hl with | [_, _, _], _ => rfl) (fun f cdv A outer s H E hr => w_below Z  hr) (fun a p => l_below Z p)
theorem f_MkD (Z : Bas K mg) (F_need_integer : Fct P w K mg base 3 "need_integer" (["value"] : List Str) (sp_need_integer K)) (F_need_positive : Fct P w K mg base 4 "need_positive" (["value"] : List Str) (sp_need_positive K)) : MkrD P w K mg base 5 := by
  obtain ⟨fd, F⟩ := Z.c.def_ 44 (d := d_Deal___init__) rfl
  have full : Binds K fd (["self", "block", "houses", "shift"] : List Str) [] := by
    obtain ⟨ds, h1, h2⟩ := F.binds1 (ps := (["self", "block", "houses", "shift"] : List Str)) 4 1 (by intro z; cases z) rfl (fun T kV doc pm an cdv ct us its h1 h2 => match us, h1, its, h2 with | [_, _, _, _], _, [_], _ => ⟨_, rfl, rfl⟩)
    have : ds = [] := by cases h1; rfl
    rw [this] at h2
    exact h2
  have one := F.binds1 (ps := (["self", "block", "houses", "shift"] : List Str)) 3 0 (by intro z; cases z) rfl (fun T kV doc pm an cdv ct us its h1 h2 => match us, h1, its, h2 with | [_, _, _], _, [_], _ => ⟨_, rfl, rfl⟩)
  refine ⟨_, fd, Z.mkD, F.ok sc_Deal___init__ (fun vs H Q E h => ?_) (fun cdv A outer s H vs Q E hr h => ⟨t_Deal___init__ w K, PSs.nox (w_Deal___init__ Z F_need_integer F_need_positive hr), l_DI Z vs H Q E h⟩), Z.glo "Deal", full, one⟩
  obtain ⟨_, _, _, _, _, _, rfl, _⟩ := h
  rfl
theorem f_Deal_turn (Z : Bas K mg)  : Mtd P w K mg base 2 (cD K) "turn" (["self"] : List Str) (sp_Deal_turn K) :=
  mkMtd Z (i := 45) (c := "Deal") (m := "turn") (qual := "Deal.turn") (st := st_Deal_turn) (N := N_Deal_turn) rfl (by decide +kernel) sc_Deal_turn (fun _ => rfl) (fun _ _ _ _ _ _ us hl => match us, hl with | [_], _ => rfl) (fun f cdv A outer s H E hr => w_Deal_turn Z  hr) (fun a p => l_Deal_turn Z p)
theorem f_need_deal (Z : Bas K mg)  : Fct P w K mg base 2 "need_deal" (["value"] : List Str) (sp_need_deal K) :=
  mkFct Z (i := 46) (nm := "need_deal") (st := st_need_deal) (N := N_need_deal) rfl (by decide +kernel) sc_need_deal (fun _ => rfl) (fun _ _ _ _ _ _ us hl => match us, hl with | [_], _ => rfl) (fun f cdv A outer s H E hr => w_need_deal Z  hr) (fun a _ => l_need_deal Z)
theorem f_form_of (Z : Bas K mg) (Meq : Mtd P w K mg base 2 (cW K) "__eq__" (["self", "other"] : List Str) (spEqW K)) : Fct P w K mg base 5 "form_of" (["entries"] : List Str) (sp_form_of K) :=
  mkFct Z (i := 47) (nm := "form_of") (st := st_form_of) (N := N_form_of) rfl (by decide +kernel) sc_form_of (fun _ => rfl) (fun _ _ _ _ _ _ us hl => match us, hl with | [_], _ => rfl) (fun f cdv A outer s H E hr => w_form_of Z Meq hr) (fun a p => l_form_of Z p)
theorem f_runs_of (Z : Bas K mg) (F_form_of : Fct P w K mg base 5 "form_of" (["entries"] : List Str) (sp_form_of K)) (F_need_entries : Fct P w K mg base 5 "need_entries" (["entries"] : List Str) (sp_need_entries K)) : Fct P w K mg base 6 "runs_of" (["entries"] : List Str) (sp_runs_of K) :=
  mkFct Z (i := 48) (nm := "runs_of") (st := st_runs_of) (N := N_runs_of) rfl (by decide +kernel) sc_runs_of (fun _ => rfl) (fun _ _ _ _ _ _ us hl => match us, hl with | [_], _ => rfl) (fun f cdv A outer s H E hr => w_runs_of Z F_form_of F_need_entries hr) (fun a p => l_runs_of Z p)
theorem f_borders_of (Z : Bas K mg)  : Fct P w K mg base 2 "borders_of" (["runs"] : List Str) (sp_borders_of K) :=
  mkFct Z (i := 49) (nm := "borders_of") (st := st_borders_of) (N := N_borders_of) rfl (by decide +kernel) sc_borders_of (fun _ => rfl) (fun _ _ _ _ _ _ us hl => match us, hl with | [_], _ => rfl) (fun f cdv A outer s H E hr => w_borders_of Z  hr) (fun a p => l_borders_of Z p)
theorem f_counts_of (Z : Bas K mg) (F_below : Fct P w K mg base 2 "below" (["period", "length", "bound"] : List Str) (sp_below K)) (M_Deal_turn : Mtd P w K mg base 2 (cD K) "turn" (["self"] : List Str) (sp_Deal_turn K)) : Fct P w K mg base 3 "counts_of" (["borders", "deal", "house"] : List Str) (sp_counts_of K) :=
  mkFct Z (i := 50) (nm := "counts_of") (st := st_counts_of) (N := N_counts_of) rfl (by decide +kernel) sc_counts_of (fun _ => rfl) (fun _ _ _ _ _ _ us hl => match us, hl with | [_, _, _], _ => rfl) (fun f cdv A outer s H E hr => w_counts_of Z F_below M_Deal_turn hr) (fun a p => l_counts_of Z p.1 p.2.1 p.2.2.1 p.2.2.2.1 p.2.2.2.2)
theorem f_stretches_of (Z : Bas K mg)  : Fct P w K mg base 2 "stretches_of" (["borders", "deal"] : List Str) (sp_stretches_of K) :=
  mkFct Z (i := 51) (nm := "stretches_of") (st := st_stretches_of) (N := N_stretches_of) rfl (by decide +kernel) sc_stretches_of (fun _ => rfl) (fun _ _ _ _ _ _ us hl => match us, hl with | [_, _], _ => rfl) (fun f cdv A outer s H E hr => w_stretches_of Z  hr) (fun a p => l_stretches_of Z p.1 p.2)
theorem f_parts_of (Z : Bas K mg) (F_loose_parts : Fct P w K mg base 7 "loose_parts" (["worth", "scale", "way"] : List Str) (sp_loose_parts K)) : Fct P w K mg base 8 "parts_of" (["runs", "scale", "way"] : List Str) (sp_parts_of K) :=
  mkFct Z (i := 52) (nm := "parts_of") (st := st_parts_of) (N := N_parts_of) rfl (by decide +kernel) sc_parts_of (fun _ => rfl) (fun _ _ _ _ _ _ us hl => match us, hl with | [_, _, _], _ => rfl) (fun f cdv A outer s H E hr => w_parts_of Z F_loose_parts hr) (fun a p => l_parts_of Z p)
theorem f_counted_total (Z : Bas K mg) (F_added_often : Fct P w K mg base 3 "added_often" (["state", "units", "times", "way"] : List Str) (sp_added_often K)) : Fct P w K mg base 4 "counted_total" (["parts", "counts", "way"] : List Str) (sp_counted_total K) :=
  mkFct Z (i := 53) (nm := "counted_total") (st := st_counted_total) (N := N_counted_total) rfl (by decide +kernel) sc_counted_total (fun _ => rfl) (fun _ _ _ _ _ _ us hl => match us, hl with | [_, _, _], _ => rfl) (fun f cdv A outer s H E hr => w_counted_total Z F_added_often hr) (fun a p => l_counted_total Z p.1 p.2.1 p.2.2.1 p.2.2.2)
theorem f_dealt_of (Z : Bas K mg) (F_counted_total : Fct P w K mg base 4 "counted_total" (["parts", "counts", "way"] : List Str) (sp_counted_total K)) (F_counts_of : Fct P w K mg base 3 "counts_of" (["borders", "deal", "house"] : List Str) (sp_counts_of K)) (F_stretches_of : Fct P w K mg base 2 "stretches_of" (["borders", "deal"] : List Str) (sp_stretches_of K)) : Fct P w K mg base 5 "dealt_of" (["borders", "parts", "deal", "way"] : List Str) (sp_dealt_of K) :=
  mkFct Z (i := 54) (nm := "dealt_of") (st := st_dealt_of) (N := N_dealt_of) rfl (by decide +kernel) sc_dealt_of (fun _ => rfl) (fun _ _ _ _ _ _ us hl => match us, hl with | [_, _, _, _], _ => rfl) (fun f cdv A outer s H E hr => w_dealt_of Z F_counted_total F_counts_of F_stretches_of hr) (fun a p => l_dealt_of Z p.1 p.2)
theorem f_dealt_total (Z : Bas K mg) (F_borders_of : Fct P w K mg base 2 "borders_of" (["runs"] : List Str) (sp_borders_of K)) (F_dealt_of : Fct P w K mg base 5 "dealt_of" (["borders", "parts", "deal", "way"] : List Str) (sp_dealt_of K)) (F_need_deal : Fct P w K mg base 2 "need_deal" (["value"] : List Str) (sp_need_deal K)) (F_need_way : Fct P w K mg base 2 "need_way" (["value"] : List Str) (sp_need_way K)) (F_need_whole : Fct P w K mg base 4 "need_whole" (["value"] : List Str) (sp_need_whole K)) (F_parts_of : Fct P w K mg base 8 "parts_of" (["runs", "scale", "way"] : List Str) (sp_parts_of K)) (F_runs_of : Fct P w K mg base 6 "runs_of" (["entries"] : List Str) (sp_runs_of K)) (MkW : MkrW P w K mg base 5) : Fct P w K mg base 9 "dealt_total" (["entries", "deal", "scale", "way"] : List Str) (sp_dealt_total K) :=
  mkFct Z (i := 55) (nm := "dealt_total") (st := st_dealt_total) (N := N_dealt_total) rfl (by decide +kernel) sc_dealt_total (fun _ => rfl) (fun _ _ _ _ _ _ us hl => match us, hl with | [_, _, _, _], _ => rfl) (fun f cdv A outer s H E hr => w_dealt_total Z F_borders_of F_dealt_of F_need_deal F_need_way F_need_whole F_parts_of F_runs_of MkW hr) (fun a p => l_dealt_total Z p.1 p.2)
theorem f_need_told_shiftsums (Z : Bas K mg) (F_free_entries : Fct P w K mg base 8 "free_entries" (["entries", "scale", "way"] : List Str) (sp_free_entries K)) : Fct P w K mg base 9 "need_told_shiftsums" (["runs", "scale", "way"] : List Str) (sp_need_told_shiftsums K) :=
  mkFct Z (i := 56) (nm := "need_told") (st := st_need_told_shiftsums) (N := N_need_told_shiftsums) rfl (by decide +kernel) sc_need_told_shiftsums (fun _ => rfl) (fun _ _ _ _ _ _ us hl => match us, hl with | [_, _, _], _ => rfl) (fun f cdv A outer s H E hr => w_need_told_shiftsums Z F_free_entries hr) (fun a p => l_need_told_shiftsums Z p.1 p.2)
theorem f_pieces_of (Z : Bas K mg) (F_borders_of : Fct P w K mg base 2 "borders_of" (["runs"] : List Str) (sp_borders_of K)) : Fct P w K mg base 3 "pieces_of" (["runs", "block"] : List Str) (sp_pieces_of K) :=
  mkFct Z (i := 57) (nm := "pieces_of") (st := st_pieces_of) (N := N_pieces_of) rfl (by decide +kernel) sc_pieces_of (fun _ => rfl) (fun _ _ _ _ _ _ us hl => match us, hl with | [_, _], _ => rfl) (fun f cdv A outer s H E hr => w_pieces_of Z F_borders_of hr) (fun a p => l_pieces_of Z p.1 p.2)
theorem f_values_of (Z : Bas K mg) (F_borders_of : Fct P w K mg base 2 "borders_of" (["runs"] : List Str) (sp_borders_of K)) (F_dealt_of : Fct P w K mg base 5 "dealt_of" (["borders", "parts", "deal", "way"] : List Str) (sp_dealt_of K)) (F_parts_of : Fct P w K mg base 8 "parts_of" (["runs", "scale", "way"] : List Str) (sp_parts_of K)) (F_pieces_of : Fct P w K mg base 3 "pieces_of" (["runs", "block"] : List Str) (sp_pieces_of K)) (MkD : MkrD P w K mg base 5) : Fct P w K mg base 9 "values_of" (["runs", "deal", "scale", "way"] : List Str) (sp_values_of K) :=
  mkFct Z (i := 58) (nm := "values_of") (st := st_values_of) (N := N_values_of) rfl (by decide +kernel) sc_values_of (fun _ => rfl) (fun _ _ _ _ _ _ us hl => match us, hl with | [_, _, _, _], _ => rfl) (fun f cdv A outer s H E hr => w_values_of Z F_borders_of F_dealt_of F_parts_of F_pieces_of MkD hr) (fun a p => l_values_of Z p.1 p.2)
theorem f_asked_values (Z : Bas K mg) (F_need_deal : Fct P w K mg base 2 "need_deal" (["value"] : List Str) (sp_need_deal K)) (F_need_told_shiftsums : Fct P w K mg base 9 "need_told_shiftsums" (["runs", "scale", "way"] : List Str) (sp_need_told_shiftsums K)) (F_need_way : Fct P w K mg base 2 "need_way" (["value"] : List Str) (sp_need_way K)) (F_need_whole : Fct P w K mg base 4 "need_whole" (["value"] : List Str) (sp_need_whole K)) (F_runs_of : Fct P w K mg base 6 "runs_of" (["entries"] : List Str) (sp_runs_of K)) (F_values_of : Fct P w K mg base 9 "values_of" (["runs", "deal", "scale", "way"] : List Str) (sp_values_of K)) : Fct P w K mg base 10 "asked_values" (["entries", "deal", "scale", "way"] : List Str) (sp_asked_values K) :=
  mkFct Z (i := 59) (nm := "asked_values") (st := st_asked_values) (N := N_asked_values) rfl (by decide +kernel) sc_asked_values (fun _ => rfl) (fun _ _ _ _ _ _ us hl => match us, hl with | [_, _, _, _], _ => rfl) (fun f cdv A outer s H E hr => w_asked_values Z F_need_deal F_need_told_shiftsums F_need_way F_need_whole F_runs_of F_values_of hr) (fun a p => l_asked_values Z p.1 p.2.1 p.2.2)
theorem f_shift_totals (Z : Bas K mg) (F_asked_values : Fct P w K mg base 10 "asked_values" (["entries", "deal", "scale", "way"] : List Str) (sp_asked_values K)) (MkW : MkrW P w K mg base 5) : Fct P w K mg base 11 "shift_totals" (["entries", "deal", "scale", "way"] : List Str) (sp_shift_totals K) :=
  mkFct Z (i := 60) (nm := "shift_totals") (st := st_shift_totals) (N := N_shift_totals) rfl (by decide +kernel) sc_shift_totals (fun _ => rfl) (fun _ _ _ _ _ _ us hl => match us, hl with | [_, _, _, _], _ => rfl) (fun f cdv A outer s H E hr => w_shift_totals Z F_asked_values MkW hr) (fun a p => l_shift_totals Z p.1 p.2.1 p.2.2)
theorem f_least_shift (Z : Bas K mg) (F_asked_values : Fct P w K mg base 10 "asked_values" (["entries", "deal", "scale", "way"] : List Str) (sp_asked_values K)) (MkW : MkrW P w K mg base 5) : Fct P w K mg base 11 "least_shift" (["entries", "deal", "scale", "way"] : List Str) (sp_least_shift K) :=
  mkFct Z (i := 61) (nm := "least_shift") (st := st_least_shift) (N := N_least_shift) rfl (by decide +kernel) sc_least_shift (fun _ => rfl) (fun _ _ _ _ _ _ us hl => match us, hl with | [_, _, _, _], _ => rfl) (fun f cdv A outer s H E hr => w_least_shift Z F_asked_values MkW hr) (fun a p => l_least_shift Z p.1 p.2.1 p.2.2)
theorem f_greatest_shift (Z : Bas K mg) (F_asked_values : Fct P w K mg base 10 "asked_values" (["entries", "deal", "scale", "way"] : List Str) (sp_asked_values K)) (MkW : MkrW P w K mg base 5) : Fct P w K mg base 11 "greatest_shift" (["entries", "deal", "scale", "way"] : List Str) (sp_greatest_shift K) :=
  mkFct Z (i := 62) (nm := "greatest_shift") (st := st_greatest_shift) (N := N_greatest_shift) rfl (by decide +kernel) sc_greatest_shift (fun _ => rfl) (fun _ _ _ _ _ _ us hl => match us, hl with | [_, _, _, _], _ => rfl) (fun f cdv A outer s H E hr => w_greatest_shift Z F_asked_values MkW hr) (fun a p => l_greatest_shift Z p.1 p.2.1 p.2.2)
theorem f__law_rising (Z : Bas K mg) (F_compare : Fct P w K mg base 8 "compare" (["one", "other"] : List Str) (sp_compare K)) : Fct P w K mg base 9 "_law_rising" (["_law_worths"] : List Str) (sp__law_rising K) :=
  mkFct Z (i := 63) (nm := "_law_rising") (st := st__law_rising) (N := N__law_rising) rfl (by decide +kernel) sc__law_rising (fun _ => rfl) (fun _ _ _ _ _ _ us hl => match us, hl with | [_], _ => rfl) (fun f cdv A outer s H E hr => w__law_rising Z F_compare hr) (fun a p => l__law_rising Z p.1 p.2)
theorem f__law_ends (Z : Bas K mg) (F_given_range : Fct P w K mg base 10 "given_range" (["entries", "scale", "way", "houses"] : List Str) (sp_given_range K)) (MkW : MkrW P w K mg base 5) : Fct P w K mg base 11 "_law_ends" (["_law_entries_here", "_law_manner", "_law_houses"] : List Str) (sp__law_ends K) :=
  mkFct Z (i := 64) (nm := "_law_ends") (st := st__law_ends) (N := N__law_ends) rfl (by decide +kernel) sc__law_ends (fun _ => rfl) (fun _ _ _ _ _ _ us hl => match us, hl with | [_, _, _], _ => rfl) (fun f cdv A outer s H E hr => w__law_ends Z F_given_range MkW hr) (fun a p => l__law_ends Z p.1 p.2.1 p.2.2)
theorem f__law_shifts_right (Z : Bas K mg) (F__law_rising : Fct P w K mg base 9 "_law_rising" (["_law_worths"] : List Str) (sp__law_rising K)) (F_dealt_total : Fct P w K mg base 9 "dealt_total" (["entries", "deal", "scale", "way"] : List Str) (sp_dealt_total K)) (F_greatest_shift : Fct P w K mg base 11 "greatest_shift" (["entries", "deal", "scale", "way"] : List Str) (sp_greatest_shift K)) (F_least_shift : Fct P w K mg base 11 "least_shift" (["entries", "deal", "scale", "way"] : List Str) (sp_least_shift K)) (F_shift_totals : Fct P w K mg base 11 "shift_totals" (["entries", "deal", "scale", "way"] : List Str) (sp_shift_totals K)) (Meq : Mtd P w K mg base 2 (cW K) "__eq__" (["self", "other"] : List Str) (spEqW K)) (MkD : MkrD P w K mg base 5) : Fct P w K mg base 12 "_law_shifts_right" (["_law_entries_here", "_law_deal", "_law_manner", "_law_low", "_law_high"] : List Str) (sp__law_shifts_right K) :=
  mkFct Z (i := 65) (nm := "_law_shifts_right") (st := st__law_shifts_right) (N := N__law_shifts_right) rfl (by decide +kernel) sc__law_shifts_right (fun _ => rfl) (fun _ _ _ _ _ _ us hl => match us, hl with | [_, _, _, _, _], _ => rfl) (fun f cdv A outer s H E hr => w__law_shifts_right Z F__law_rising F_dealt_total F_greatest_shift F_least_shift F_shift_totals Meq MkD hr) (fun a p => l__law_shifts_right Z p)
theorem f__law_giving_right (Z : Bas K mg) (F__law_ends : Fct P w K mg base 11 "_law_ends" (["_law_entries_here", "_law_manner", "_law_houses"] : List Str) (sp__law_ends K)) (F__law_rising : Fct P w K mg base 9 "_law_rising" (["_law_worths"] : List Str) (sp__law_rising K)) (F_houses_enough : Fct P w K mg base 11 "houses_enough" (["entries", "scale", "way"] : List Str) (sp_houses_enough K)) (Meq : Mtd P w K mg base 2 (cW K) "__eq__" (["self", "other"] : List Str) (spEqW K)) : Fct P w K mg base 12 "_law_giving_right" (["_law_entries_here", "_law_manner", "_law_houses"] : List Str) (sp__law_giving_right K) :=
  mkFct Z (i := 66) (nm := "_law_giving_right") (st := st__law_giving_right) (N := N__law_giving_right) rfl (by decide +kernel) sc__law_giving_right (fun _ => rfl) (fun _ _ _ _ _ _ us hl => match us, hl with | [_, _, _], _ => rfl) (fun f cdv A outer s H E hr => w__law_giving_right Z F__law_ends F__law_rising F_houses_enough Meq hr) (fun a p => l__law_giving_right Z p)
/-- what the law itself calls -/
structure Alls (P : Program) (w : World) (K : PySem.W.Frag) (mg : Str → Option Value) (base : Heap) : Prop where
  F_running_total : Fct P w K mg base 9 "running_total" (["entries", "scale", "way"] : List Str) (sp_running_total K)
  F_order_range : Fct P w K mg base 9 "order_range" (["entries", "scale", "way"] : List Str) (sp_order_range K)
  F_single_total : Fct P w K mg base 7 "single_total" (["entries", "scale", "way"] : List Str) (sp_single_total K)
  F_dealt_total : Fct P w K mg base 9 "dealt_total" (["entries", "deal", "scale", "way"] : List Str) (sp_dealt_total K)
  F_is_free : Fct P w K mg base 9 "is_free" (["entries", "scale", "way"] : List Str) (sp_is_free K)
  F__law_ends : Fct P w K mg base 11 "_law_ends" (["_law_entries_here", "_law_manner", "_law_houses"] : List Str) (sp__law_ends K)
  F__law_rising : Fct P w K mg base 9 "_law_rising" (["_law_worths"] : List Str) (sp__law_rising K)
  F__law_giving_right : Fct P w K mg base 12 "_law_giving_right" (["_law_entries_here", "_law_manner", "_law_houses"] : List Str) (sp__law_giving_right K)
  F__law_shifts_right : Fct P w K mg base 12 "_law_shifts_right" (["_law_entries_here", "_law_deal", "_law_manner", "_law_low", "_law_high"] : List Str) (sp__law_shifts_right K)
  MkW : MkrW P w K mg base 5
  MkD : MkrD P w K mg base 5
  Meq : Mtd P w K mg base 2 (cW K) "__eq__" (["self", "other"] : List Str) (spEqW K)
theorem alls (Z : Bas K mg) : Alls P w K mg base := by
  have F_is_integer := f_is_integer (P := P) (w := w) (base := base) Z 
  have F_is_whole := f_is_whole (P := P) (w := w) (base := base) Z F_is_integer
  have F_need_integer := f_need_integer (P := P) (w := w) (base := base) Z F_is_integer
  have F_need_whole := f_need_whole (P := P) (w := w) (base := base) Z F_is_whole
  have F_need_positive := f_need_positive (P := P) (w := w) (base := base) Z F_is_whole
  have F_need_items := f_need_items (P := P) (w := w) (base := base) Z 
  have F_ten_to := f_ten_to (P := P) (w := w) (base := base) Z 
  have F_lowered := f_lowered (P := P) (w := w) (base := base) Z 
  have MkW := f_MkW (P := P) (w := w) (base := base) Z F_lowered F_need_integer F_need_whole
  have Meq := f_Worth___eq__ (P := P) (w := w) (base := base) Z 
  have Mneg := f_Worth___neg__ (P := P) (w := w) (base := base) Z MkW
  have M_Worth_sign := f_Worth_sign (P := P) (w := w) (base := base) Z 
  have M_Worth_units_at := f_Worth_units_at (P := P) (w := w) (base := base) Z F_need_whole F_ten_to
  have F_need_worth := f_need_worth (P := P) (w := w) (base := base) Z 
  have F_worth_sum := f_worth_sum (P := P) (w := w) (base := base) Z F_ten_to MkW
  have F_compare := f_compare (P := P) (w := w) (base := base) Z F_need_worth F_worth_sum M_Worth_sign
  have F_need_way := f_need_way (P := P) (w := w) (base := base) Z 
  have F_lift := f_lift (P := P) (w := w) (base := base) Z 
  have F_part_of := f_part_of (P := P) (w := w) (base := base) Z 
  have F_divided_by := f_divided_by (P := P) (w := w) (base := base) Z F_lift F_part_of
  have F_is_entry := f_is_entry (P := P) (w := w) (base := base) Z F_is_whole
  have F_need_entries := f_need_entries (P := P) (w := w) (base := base) Z F_is_entry F_need_items
  have F_need_asked := f_need_asked (P := P) (w := w) (base := base) Z F_need_entries F_need_way F_need_whole
  have F_in_parts := f_in_parts (P := P) (w := w) (base := base) Z F_ten_to M_Worth_units_at
  have F_loose_parts := f_loose_parts (P := P) (w := w) (base := base) Z F_divided_by F_in_parts
  have F_added := f_added (P := P) (w := w) (base := base) Z 
  have F_added_often := f_added_often (P := P) (w := w) (base := base) Z F_added
  have F_running_units := f_running_units (P := P) (w := w) (base := base) Z F_added_often F_loose_parts
  have F_free_entries := f_free_entries (P := P) (w := w) (base := base) Z F_loose_parts M_Worth_sign
  have F_single_total := f_single_total (P := P) (w := w) (base := base) Z F_divided_by F_in_parts F_need_asked MkW
  have F_running_total := f_running_total (P := P) (w := w) (base := base) Z F_need_asked F_running_units MkW
  have F_is_free := f_is_free (P := P) (w := w) (base := base) Z F_free_entries F_need_asked
  have F_even_ends := f_even_ends (P := P) (w := w) (base := base) Z F_loose_parts
  have F_sided_top := f_sided_top (P := P) (w := w) (base := base) Z F_loose_parts M_Worth_sign
  have F_order_range := f_order_range (P := P) (w := w) (base := base) Z F_even_ends F_need_asked F_running_units F_sided_top MkW Mneg
  have F_even_runs := f_even_runs (P := P) (w := w) (base := base) Z F_loose_parts
  have F_odd_houses := f_odd_houses (P := P) (w := w) (base := base) Z 
  have F_best_given := f_best_given (P := P) (w := w) (base := base) Z F_even_runs F_odd_houses
  have F_negated := f_negated (P := P) (w := w) (base := base) Z Mneg
  have F_need_told_giving := f_need_told_giving (P := P) (w := w) (base := base) Z F_free_entries
  have F_given_range := f_given_range (P := P) (w := w) (base := base) Z F_best_given F_need_asked F_need_positive F_need_told_giving F_negated F_running_units MkW
  have F_enough := f_enough (P := P) (w := w) (base := base) Z F_best_given
  have F_houses_enough := f_houses_enough (P := P) (w := w) (base := base) Z F_enough F_need_asked F_need_told_giving F_negated
  have F_below := f_below (P := P) (w := w) (base := base) Z 
  have MkD := f_MkD (P := P) (w := w) (base := base) Z F_need_integer F_need_positive
  have M_Deal_turn := f_Deal_turn (P := P) (w := w) (base := base) Z 
  have F_need_deal := f_need_deal (P := P) (w := w) (base := base) Z 
  have F_form_of := f_form_of (P := P) (w := w) (base := base) Z Meq
  have F_runs_of := f_runs_of (P := P) (w := w) (base := base) Z F_form_of F_need_entries
  have F_borders_of := f_borders_of (P := P) (w := w) (base := base) Z 
  have F_counts_of := f_counts_of (P := P) (w := w) (base := base) Z F_below M_Deal_turn
  have F_stretches_of := f_stretches_of (P := P) (w := w) (base := base) Z 
  have F_parts_of := f_parts_of (P := P) (w := w) (base := base) Z F_loose_parts
  have F_counted_total := f_counted_total (P := P) (w := w) (base := base) Z F_added_often
  have F_dealt_of := f_dealt_of (P := P) (w := w) (base := base) Z F_counted_total F_counts_of F_stretches_of
  have F_dealt_total := f_dealt_total (P := P) (w := w) (base := base) Z F_borders_of F_dealt_of F_need_deal F_need_way F_need_whole F_parts_of F_runs_of MkW
  have F_need_told_shiftsums := f_need_told_shiftsums (P := P) (w := w) (base := base) Z F_free_entries
  have F_pieces_of := f_pieces_of (P := P) (w := w) (base := base) Z F_borders_of
  have F_values_of := f_values_of (P := P) (w := w) (base := base) Z F_borders_of F_dealt_of F_parts_of F_pieces_of MkD
  have F_asked_values := f_asked_values (P := P) (w := w) (base := base) Z F_need_deal F_need_told_shiftsums F_need_way F_need_whole F_runs_of F_values_of
  have F_shift_totals := f_shift_totals (P := P) (w := w) (base := base) Z F_asked_values MkW
  have F_least_shift := f_least_shift (P := P) (w := w) (base := base) Z F_asked_values MkW
  have F_greatest_shift := f_greatest_shift (P := P) (w := w) (base := base) Z F_asked_values MkW
  have F__law_rising := f__law_rising (P := P) (w := w) (base := base) Z F_compare
  have F__law_ends := f__law_ends (P := P) (w := w) (base := base) Z F_given_range MkW
  have F__law_shifts_right := f__law_shifts_right (P := P) (w := w) (base := base) Z F__law_rising F_dealt_total F_greatest_shift F_least_shift F_shift_totals Meq MkD
  have F__law_giving_right := f__law_giving_right (P := P) (w := w) (base := base) Z F__law_ends F__law_rising F_houses_enough Meq
  exact ⟨F_running_total, F_order_range, F_single_total, F_dealt_total, F_is_free, F__law_ends, F__law_rising, F__law_giving_right, F__law_shifts_right, MkW, MkD, Meq⟩
end
end KX
/-! Sums over houses; the counts of a house; a house's total as a walk along the runs. -/
namespace KX
def sI (F : Int → Int) (lo : Int) : Nat → Int
  | 0 => 0
  | n + 1 => sI F lo n + F (lo + n)
theorem sI_add (F : Int → Int) (lo : Int) (m : Nat) : ∀ n : Nat, sI F lo (m + n) = sI F lo m + sI F (lo + m) n
  | 0 => by simp [sI]
  | n + 1 => by
    show sI F lo (m + n) + F (lo + ((m + n : Nat) : Int)) = sI F lo m + (sI F (lo + m) n + F (lo + m + n))
    rw [sI_add F lo m n, show lo + ((m + n : Nat) : Int) = lo + m + n by omega]
    omega
theorem sI_congr {F G : Int → Int} {lo : Int} : ∀ {n : Nat}, (∀ h, lo ≤ h → h < lo + n → F h = G h) → sI F lo n = sI G lo n
  | 0, _ => rfl
  | n + 1, q => by
    show sI F lo n + F (lo + n) = sI G lo n + G (lo + n)
    rw [sI_congr fun h h1 h2 => q h h1 (by omega), q (lo + n) (by omega) (by omega)]
theorem sI_const {F : Int → Int} {lo c : Int} : ∀ {n : Nat}, (∀ h, lo ≤ h → h < lo + n → F h = c) → sI F lo n = n * c
  | 0, _ => by simp [sI]
  | n + 1, q => by
    show sI F lo n + F (lo + n) = _
    rw [sI_const fun h h1 h2 => q h h1 (by omega), q (lo + n) (by omega) (by omega), show ((n + 1 : Nat) : Int) = n + 1 by omega, Int.add_mul, Int.one_mul]
theorem sI_lin {F G : Int → Int} {lo : Int} : ∀ {n : Nat}, sI (fun h => F h + G h) lo n = sI F lo n + sI G lo n
  | 0 => rfl
  | n + 1 => by
    show sI _ lo n + (F (lo + n) + G (lo + n)) = sI F lo n + F (lo + n) + (sI G lo n + G (lo + n))
    rw [sI_lin]
    omega
theorem sI_mul {F : Int → Int} {lo c : Int} : ∀ {n : Nat}, sI (fun h => F h * c) lo n = sI F lo n * c
  | 0 => by simp [sI]
  | n + 1 => by
    show sI _ lo n + F (lo + n) * c = (sI F lo n + F (lo + n)) * c
    rw [sI_mul, Int.add_mul]
theorem sI_neg {F : Int → Int} {lo : Int} : ∀ {n : Nat}, sI (fun h => -F h) lo n = -sI F lo n
  | 0 => rfl
  | n + 1 => by
    show sI _ lo n + -F (lo + n) = -(sI F lo n + F (lo + n))
    rw [sI_neg]
    omega
theorem sI_shift {F : Int → Int} {k : Int} : ∀ {lo : Int} {n : Nat}, sI (fun h => F (h + k)) lo n = sI F (lo + k) n
  | lo, 0 => rfl
  | lo, n + 1 => by
    show sI _ lo n + F (lo + n + k) = sI F (lo + k) n + F (lo + k + n)
    rw [sI_shift, show lo + n + k = lo + k + n by omega]
/-- a periodic function has one sum over every whole period -/
theorem sI_per {F : Int → Int} {n : Nat} (q : ∀ h, F (h + n) = F h) : ∀ (k : Nat) (lo : Int), sI F (lo + k) n = sI F lo n
  | 0, lo => by simp
  | k + 1, lo => by
    have e := sI_per q k lo
    have e1 := sI_add F (lo + k) n 1
    have e2 := sI_add F (lo + k) 1 n
    rw [Nat.add_comm] at e2
    rw [e2] at e1
    have s1 : ∀ z, sI F z 1 = F z := fun z => by
      show 0 + F (z + ((0 : Nat) : Int)) = F z
      rw [show z + ((0 : Nat) : Int) = z by omega]
      omega
    rw [s1, s1] at e1
    have := q (lo + k)
    rw [show lo + ((k + 1 : Nat) : Int) = lo + k + ((1 : Nat) : Int) by omega, ← e]
    omega
theorem sI_perZ {F : Int → Int} {n : Nat} (q : ∀ h, F (h + n) = F h) (a b : Int) : sI F a n = sI F b n := by
  rcases Int.le_total a b with h | h
  · obtain ⟨k, e⟩ := Int.eq_ofNat_of_zero_le (show 0 ≤ b - a by omega)
    have := sI_per q k a
    rw [show a + (k : Int) = b by omega] at this
    exact this.symm
  · obtain ⟨k, e⟩ := Int.eq_ofNat_of_zero_le (show 0 ≤ a - b by omega)
    have := sI_per q k b
    rw [show b + (k : Int) = a by omega] at this
    exact this
/-! a house -/
def gH (b P a h x : Int) : Int := belowF (b * P) b (x + (a - h * b))
/-- a walk along the runs: f st n c adds c times n tenths -/
def hg (f : Int → Int → Int → Int) (g : Int → Int) : Int → Ent → Int → Int
  | _, [], st => st
  | s, e :: r, st => hg f g (s + e.2) r (f st e.1 (g (s + e.2) - g s))
def cf (w : Way) (st n c : Int) : Int := cst w st (prt w n) c
def pre : Int → List Int → List Int
  | s, [] => [s]
  | s, t :: r => s :: pre (s + t) r
def difs : List Int → List Int
  | [] => []
  | [_] => []
  | x :: y :: l => (y - x) :: difs (y :: l)
theorem difs_eq : ∀ l : List Int, ((List.range (l.length - 1)).map fun i => l.getD (i + 1) 0 - l.getD i 0) = difs l
  | [] => rfl
  | [_] => rfl
  | x :: y :: l => by
    have e := difs_eq (y :: l)
    rw [difs, ← e]
    show List.map _ (List.range (l.length + 1)) = _
    rw [List.range_succ_eq_map, List.map_cons, List.map_map]
    rfl
theorem bord_go : ∀ (ts : List Int) (l : List Int) (s : Int), ts.foldl (fun s t => s ++ [s.getLast?.getD 0 + t]) (l ++ [s]) = l ++ pre s ts
  | [], l, s => rfl
  | t :: r, l, s => by
    rw [List.foldl_cons, List.getLast?_append]
    simp only [List.getLast?_singleton, Option.or_some, Option.getD_some, Option.some_or]
    rw [bord_go r (l ++ [s]) (s + t), List.append_assoc]
    rfl
theorem bord_pre (ts : List Int) : bordF ts = pre 0 ts := bord_go ts [] 0
theorem cnt_hg (w : Way) (g : Int → Int) : ∀ (rs : Ent) (s st : Int), ((prtE w rs).zip (difs ((pre s (rs.map (·.2))).map g))).foldl (fun st q => cst w st q.1 q.2) st = hg (cf w) g s rs st
  | [], s, st => rfl
  | [e], s, st => rfl
  | e :: e2 :: r, s, st => cnt_hg w g (e2 :: r) (s + e.2) _
theorem house_eq (w : Way) (rs : Ent) (b P a h : Int) : cntF w (prtE w rs) (countsF (bordE rs) b P a h) = hg (cf w) (gH b P a h) 0 rs 0 := by
  have e : countsF (bordE rs) b P a h = difs ((bordE rs).map (gH b P a h)) := difs_eq _
  rw [e, bordE, bord_pre]
  exact cnt_hg w _ rs 0 0
/-! the count below: h's share of the cells below Y -/
def gF (b P Y h : Int) : Int := b * (Y / b / P) + (if h < Y / b % P then b else if h = Y / b % P then Y % b else 0)
theorem dm {Y b P : Int} (hb : 0 < b) (hP : 0 < P) : Y = b * (P * (Y / b / P) + Y / b % P) + Y % b ∧ 0 ≤ Y / b % P ∧ Y / b % P < P ∧ 0 ≤ Y % b ∧ Y % b < b := by
  have h1 := Int.emod_add_mul_ediv Y b
  have h2 := Int.emod_nonneg Y (by omega : b ≠ 0)
  have h3 := Int.emod_lt_of_pos Y hb
  have h4 := Int.emod_add_mul_ediv (Y / b) P
  have h5 := Int.emod_nonneg (Y / b) (by omega : P ≠ 0)
  have h6 := Int.emod_lt_of_pos (Y / b) hP
  refine ⟨?_, h5, h6, h2, h3⟩
  rw [show P * (Y / b / P) + Y / b % P = Y / b by omega]
  omega
theorem gF_eq {b P Y h : Int} (hb : 0 < b) (hP : 0 < P) (h0 : 0 ≤ h) (h1 : h < P) : belowF (b * P) b (Y - h * b) = gF b P Y h := by
  obtain ⟨e, a1, a2, a3, a4⟩ := dm (Y := Y) hb hP
  unfold gF
  generalize Y / b % P = H at *
  generalize Y / b / P = Q at *
  generalize Y % b = r at *
  have hbP : 0 < b * P := Int.mul_pos hb hP
  have ez : Y - h * b = (b * P) * Q + ((H - h) * b + r) := by
    rw [e, Int.mul_add, Int.sub_mul, Int.mul_assoc, Int.mul_comm b H]
    omega
  have key : ∀ z, 0 ≤ z → z < b * P → ∀ R, belowF (b * P) b ((b * P) * R + z) = b * R + mn z b := by
    intro z z0 z1 R
    unfold belowF
    rw [Int.add_comm ((b * P) * R) z, Int.add_mul_ediv_left _ _ (by omega), Int.ediv_eq_zero_of_lt z0 z1, Int.add_mul_emod_self_left, Int.emod_eq_of_lt z0 z1, Int.zero_add]
  rw [ez]
  have up : ∀ k : Int, 0 ≤ k → k < P → k * b + b ≤ b * P := by
    intro k k0 k1
    have := Int.mul_le_mul_of_nonneg_right (show k + 1 ≤ P by omega) (Int.le_of_lt hb)
    rw [Int.add_mul, Int.one_mul, Int.mul_comm P b] at this
    exact this
  by_cases c1 : h < H
  · have u := up (H - h) (by omega) (by omega)
    have l := Int.mul_le_mul_of_nonneg_right (show 1 ≤ H - h by omega) (Int.le_of_lt hb)
    rw [key _ (by omega) (by omega), if_pos c1]
    unfold mn
    split <;> omega
  · rw [if_neg c1]
    by_cases c2 : h = H
    · subst c2
      have u := up 0 (by omega) (by omega)
      rw [key _ (by rw [Int.sub_self, Int.zero_mul]; omega) (by rw [Int.sub_self, Int.zero_mul]; omega), if_pos rfl, Int.sub_self, Int.zero_mul]
      unfold mn
      split <;> omega
    · rw [if_neg c2]
      have u := up (h - H) (by omega) (by omega)
      have l := Int.mul_le_mul_of_nonneg_right (show 1 ≤ h - H by omega) (Int.le_of_lt hb)
      have e2 : (H - h) * b = -((h - H) * b) := by rw [← Int.neg_mul]; congr 1; omega
      rw [show (b * P) * Q + ((H - h) * b + r) = (b * P) * (Q - 1) + (b * P + ((H - h) * b + r)) by rw [Int.mul_sub]; omega]
      rw [key _ (by omega) (by omega), Int.mul_sub]
      unfold mn
      split <;> omega
theorem gH_eq {b P a h x : Int} (hb : 0 < b) (hP : 0 < P) (h0 : 0 ≤ h) (h1 : h < P) : gH b P a h x = gF b P (x + a) h := by
  rw [← gF_eq hb hP h0 h1, gH, show x + (a - h * b) = x + a - h * b by omega]
theorem gF_mono {b P X Y h : Int} (hb : 0 < b) (hP : 0 < P) (q : X ≤ Y) : gF b P X h ≤ gF b P Y h := by
  obtain ⟨e, a1, a2, a3, a4⟩ := dm (Y := X) hb hP
  obtain ⟨f, b1, b2, b3, b4⟩ := dm (Y := Y) hb hP
  have m1 : X / b ≤ Y / b := Int.ediv_le_ediv hb q
  have m2 : X / b / P ≤ Y / b / P := Int.ediv_le_ediv hP m1
  have r1 := Int.emod_add_mul_ediv (X / b) P
  have r2 := Int.emod_add_mul_ediv (Y / b) P
  unfold gF
  rcases Int.lt_or_eq_of_le m2 with c | c
  · have l := Int.mul_le_mul_of_nonneg_left (show X / b / P + 1 ≤ Y / b / P by omega) (Int.le_of_lt hb)
    rw [Int.mul_add] at l
    split <;> split <;> (try split) <;> (try split) <;> omega
  · have c2 : P * (X / b / P) = P * (Y / b / P) := by rw [c]
    have m3 : X / b % P ≤ Y / b % P := by omega
    rcases Int.lt_or_eq_of_le m3 with d | d
    · rw [c]
      split <;> split <;> (try split) <;> (try split) <;> omega
    · have d2 : b * (P * (X / b / P) + X / b % P) = b * (P * (Y / b / P) + Y / b % P) := by rw [c, d]
      have : X % b ≤ Y % b := by omega
      rw [c, d]
      split <;> (try split) <;> omega
theorem gF_sum {b P Y : Int} (hb : 0 < b) (hP : 0 < P) : sI (gF b P Y) 0 P.toNat = Y := by
  obtain ⟨e, a1, a2, a3, a4⟩ := dm (Y := Y) hb hP
  have key : ∀ n : Nat, sI (gF b P Y) 0 n = b * (n * (Y / b / P)) + (if (n : Int) ≤ Y / b % P then b * n else b * (Y / b % P) + Y % b) := by
    intro n
    induction n with
    | zero =>
      rw [if_pos (by omega)]
      simp [sI]
    | succ n ih =>
      show sI _ 0 n + gF b P Y (0 + n) = _
      rw [ih, Int.zero_add]
      unfold gF
      rw [show ((n + 1 : Nat) : Int) = n + 1 by omega, Int.add_mul, Int.one_mul, Int.mul_add, Int.mul_add]
      by_cases c1 : (n : Int) < Y / b % P
      · rw [if_pos (by omega), if_pos c1, if_pos (by omega)]
        omega
      · by_cases c2 : (n : Int) = Y / b % P
        · rw [if_pos (by omega), if_neg c1, if_pos c2, if_neg (by omega), ← c2]
          omega
        · rw [if_neg (by omega), if_neg c1, if_neg c2, if_neg (by omega)]
          omega
  rw [key, show (P.toNat : Int) = P by omega, if_neg (by omega)]
  rw [← Int.add_assoc, ← Int.mul_add]
  exact e.symm
theorem gH_mono {b P a h x y : Int} (hb : 0 < b) (hP : 0 < P) (h0 : 0 ≤ h) (h1 : h < P) (q : x ≤ y) : gH b P a h x ≤ gH b P a h y := by
  rw [gH_eq hb hP h0 h1, gH_eq hb hP h0 h1]
  exact gF_mono hb hP (by omega)
theorem gH_sum {b P a x : Int} (hb : 0 < b) (hP : 0 < P) : sI (fun h => gH b P a h x) 0 P.toNat = x + a := by
  rw [← gF_sum (Y := x + a) hb hP]
  exact sI_congr fun h h0 h1 => gH_eq hb hP h0 (by omega)
theorem gH_dsum {b P a x y : Int} (hb : 0 < b) (hP : 0 < P) : sI (fun h => gH b P a h y - gH b P a h x) 0 P.toNat = y - x := by
  have e : sI (fun h => gH b P a h y - gH b P a h x) 0 P.toNat = sI (fun h => gH b P a h y) 0 P.toNat + sI (fun h => -gH b P a h x) 0 P.toNat := by
    rw [← sI_lin]
    exact sI_congr fun h _ _ => by omega
  rw [e, sI_neg, gH_sum hb hP, gH_sum hb hP]
  omega
/-- one house on: the same counts -/
theorem gH_turn {b P a h x : Int} (hb : 0 < b) (hP : 0 < P) : gH b P a (h + P) x = gH b P a h x - b := by
  unfold gH belowF
  have hbP : 0 < b * P := Int.mul_pos hb hP
  rw [show x + (a - (h + P) * b) = x + (a - h * b) + (b * P) * (-1) by rw [Int.add_mul, Int.mul_comm P b]; omega]
  rw [Int.add_mul_ediv_left _ _ (by omega), Int.add_mul_emod_self_left, Int.mul_add]
  omega
theorem gH_off {b P a h x k : Int} : gH b P (a + k * b) h x = gH b P a (h - k) x := by
  unfold gH
  rw [show x + (a + k * b - h * b) = x + (a - (h - k) * b) by rw [Int.sub_mul]; omega]
theorem hg_off {f : Int → Int → Int → Int} {g g' : Int → Int} {c : Int} (q : ∀ x, g' x = g x + c) : ∀ (rs : Ent) (s st : Int), hg f g' s rs st = hg f g s rs st
  | [], s, st => rfl
  | e :: r, s, st => by
    show hg f g' (s + e.2) r (f st e.1 (g' (s + e.2) - g' s)) = hg f g (s + e.2) r (f st e.1 (g (s + e.2) - g s))
    rw [hg_off q r, q, q, show g (s + e.2) + c - (g s + c) = g (s + e.2) - g s by omega]
/-- the dealt total, summed over houses -/
def dH (f : Int → Int → Int → Int) (rs : Ent) (b P a : Int) : Int := sI (fun h => hg f (gH b P a h) 0 rs 0) 0 P.toNat
theorem dH_mod {f : Int → Int → Int → Int} {rs : Ent} {b P : Int} (hb : 0 < b) (hP : 0 < P) (a k : Int) : dH f rs b P (a + k * b) = dH f rs b P a := by
  unfold dH
  have q : ∀ h : Int, hg f (gH b P a (h + P.toNat)) 0 rs 0 = hg f (gH b P a h) 0 rs 0 := fun h =>
    hg_off (c := -b) (fun x => by rw [show (P.toNat : Int) = P by omega, gH_turn hb hP]; omega) rs 0 0
  have e := sI_perZ (F := fun h => hg f (gH b P a h) 0 rs 0) q (0 + -k) 0
  rw [← e, ← sI_shift]
  refine sI_congr fun h _ _ => ?_
  show _ = hg f (gH b P a (h + -k)) 0 rs 0
  exact hg_off (c := 0) (fun x => by rw [gH_off, Int.add_zero, Int.sub_eq_add_neg]) rs 0 0
end KX
/-! A deal's total by stretches is its total over all houses. -/
namespace KX
/-- the stretches between the members of a rising row -/
def stz : List Int → Int → List (Int × Int)
  | [], _ => []
  | [f], P => [(f, P)]
  | f :: g :: l, P => (f, g) :: stz (g :: l) P
theorem zip_stz : ∀ (l : List Int) (P : Int), l.zip (l.drop 1 ++ [P]) = stz l P
  | [], _ => rfl
  | [f], P => rfl
  | f :: g :: l, P => by
    have e := zip_stz (g :: l) P
    rw [stz, ← e]
    rfl
theorem stz_mem : ∀ {l : List Int} {P : Int}, l.Pairwise (· < ·) → (∀ x ∈ l, x < P) → ∀ q ∈ stz l P, q.1 ∈ l ∧ q.1 < q.2 ∧ q.2 ≤ P ∧ (q.2 = P ∨ q.2 ∈ l) ∧ ∀ z ∈ l, z ≤ q.1 ∨ q.2 ≤ z
  | [], _, _, _, q, hq => absurd hq (by simp [stz])
  | [f], P, _, hl, q, hq => by
    simp only [stz, List.mem_singleton] at hq
    subst hq
    refine ⟨List.mem_singleton.mpr rfl, hl f (by simp), Int.le_refl _, .inl rfl, fun z hz => .inl ?_⟩
    rw [List.mem_singleton.mp hz]
    exact Int.le_refl _
  | f :: g :: l, P, hs, hl, q, hq => by
    obtain ⟨h1, h2⟩ := List.pairwise_cons.mp hs
    have hfg := h1 g (by simp)
    rw [stz] at hq
    rcases List.mem_cons.mp hq with e | e
    · subst e
      refine ⟨by simp, hfg, Int.le_of_lt (hl g (by simp)), .inr (by simp), fun z hz => ?_⟩
      rcases List.mem_cons.mp hz with e | e
      · exact .inl (by rw [e]; exact Int.le_refl _)
      · rcases List.mem_cons.mp e with e2 | e2
        · exact .inr (by rw [e2]; exact Int.le_refl _)
        · exact .inr (Int.le_of_lt ((List.pairwise_cons.mp h2).1 z e2))
    · obtain ⟨a1, a2, a3, a4, a5⟩ := stz_mem h2 (fun x hx => hl x (List.mem_cons_of_mem _ hx)) q e
      refine ⟨List.mem_cons_of_mem _ a1, a2, a3, a4.imp id (List.mem_cons_of_mem _), fun z hz => ?_⟩
      rcases List.mem_cons.mp hz with e2 | e2
      · refine .inl ?_
        rw [e2]
        exact Int.le_of_lt (h1 _ a1)
      · exact a5 z e2
theorem stz_sum {F : Int → Int} : ∀ {l : List Int} {f P s : Int}, (f :: l).Pairwise (· < ·) → (∀ x ∈ f :: l, x < P) → (∀ q ∈ stz (f :: l) P, ∀ h, q.1 ≤ h → h < q.2 → F h = F q.1) →
    (stz (f :: l) P).foldl (fun s q => s + (q.2 - q.1) * F q.1) s = s + sI F f (P - f).toNat
  | [], f, P, s, _, hl, hc => by
    have hf := hl f (by simp)
    rw [sI_const (c := F f) (fun h h1 h2 => hc (f, P) (by simp [stz]) h h1 (by omega))]
    show s + (P - f) * F f = _
    rw [show ((P - f).toNat : Int) = P - f by omega]
  | g :: l, f, P, s, hs, hl, hc => by
    obtain ⟨h1, h2⟩ := List.pairwise_cons.mp hs
    have hfg := h1 g (by simp)
    have hg := hl g (by simp)
    have e := stz_sum (F := F) (s := s + (g - f) * F f) h2 (fun x hx => hl x (List.mem_cons_of_mem _ hx)) (fun q hq => hc q (List.mem_cons_of_mem _ hq))
    show (stz (g :: l) P).foldl _ (s + (g - f) * F f) = _
    rw [e, show (P - f).toNat = (g - f).toNat + (P - g).toNat by omega, sI_add]
    rw [sI_const (lo := f) (n := (g - f).toNat) (c := F f) (fun h h1 h2 => hc (f, g) (by simp [stz]) h h1 (by omega))]
    rw [show ((g - f).toNat : Int) = g - f by omega, show f + (g - f) = g by omega]
    omega
theorem hg_congr {f : Int → Int → Int → Int} {g g' : Int → Int} : ∀ {rs : Ent} {s st : Int}, (∀ x ∈ pre s (rs.map (·.2)), g x = g' x) → hg f g s rs st = hg f g' s rs st
  | [], _, _, _ => rfl
  | [e], s, st, q => by
    show f st e.1 (g (s + e.2) - g s) = f st e.1 (g' (s + e.2) - g' s)
    rw [q s (by simp [pre]), q (s + e.2) (by simp [pre])]
  | e :: e2 :: r, s, st, q => by
    show hg f g (s + e.2) (e2 :: r) (f st e.1 (g (s + e.2) - g s)) = hg f g' (s + e.2) (e2 :: r) (f st e.1 (g' (s + e.2) - g' s))
    rw [q s (by simp [pre]), q (s + e.2) (by simp [pre])]
    exact hg_congr fun x hx => q x (by
      show x ∈ s :: pre (s + e.2) _
      exact List.mem_cons_of_mem _ hx)
theorem firsts_mem {bs : List Int} {b P a k : Int} : k ∈ firstsF bs b P a ↔ k < P ∧ (k = 0 ∨ (∃ x ∈ bs, (x + a) / b % P = k) ∨ ∃ x ∈ bs, (x + a) / b % P + 1 = k) := by
  rw [firstsF, mem_ssort, List.mem_filter, List.mem_append, List.mem_append, List.mem_singleton]
  simp only [specF, List.mem_map, decide_eq_true_eq]
  constructor
  · rintro ⟨(h | ⟨x, hx, e⟩) | ⟨y, ⟨x, hx, e⟩, e2⟩, hk⟩
    · exact ⟨hk, .inl h⟩
    · exact ⟨hk, .inr (.inl ⟨x, hx, e⟩)⟩
    · exact ⟨hk, .inr (.inr ⟨x, hx, by rw [e]; exact e2⟩)⟩
  · rintro ⟨hk, h | ⟨x, hx, e⟩ | ⟨x, hx, e⟩⟩
    · exact ⟨.inl (.inl h), hk⟩
    · exact ⟨.inl (.inr ⟨x, hx, e⟩), hk⟩
    · exact ⟨.inr ⟨_, ⟨x, hx, rfl⟩, e⟩, hk⟩
/-- the master formula -/
theorem deal_dH (w : Way) (rs : Ent) {b P a : Int} (hb : 0 < b) (hP : 0 < P) : dealF w (bordE rs) (prtE w rs) b P a = dH (cf w) rs b P a := by
  unfold dealF strF
  rw [zip_stz]
  have hs : (firstsF (bordE rs) b P a).Pairwise (· < ·) := ssort_sorted _
  have m : ∀ k, k ∈ firstsF (bordE rs) b P a ↔ _ := fun k => firsts_mem
  have nn : ∀ x : Int, 0 ≤ (x + a) / b % P := fun x => Int.emod_nonneg _ (by omega)
  have lt : ∀ x : Int, (x + a) / b % P < P := fun x => Int.emod_lt_of_pos _ hP
  have m0 : (0 : Int) ∈ firstsF (bordE rs) b P a := (m 0).mpr ⟨hP, .inl rfl⟩
  obtain ⟨f, l, e⟩ : ∃ f l, firstsF (bordE rs) b P a = f :: l := by
    cases h : firstsF (bordE rs) b P a with
    | nil => rw [h] at m0; exact absurd m0 (by simp)
    | cons f l => exact ⟨f, l, rfl⟩
  have hf : f = 0 := by
    rw [e] at hs m0
    have h0 : 0 ≤ f := by
      have q := (m f).mp (by rw [e]; simp)
      rcases q.2 with q | ⟨x, hx, q⟩ | ⟨x, hx, q⟩
      · omega
      · have := nn x; omega
      · have := nn x; omega
    rcases List.mem_cons.mp m0 with q | q
    · exact q.symm
    · have := (List.pairwise_cons.mp hs).1 0 q
      omega
  have hl : ∀ x ∈ f :: l, x < P := fun x hx => ((m x).mp (by rw [e]; exact hx)).1
  have F : ∀ h, cntF w (prtE w rs) (countsF (bordE rs) b P a h) = hg (cf w) (gH b P a h) 0 rs 0 := house_eq w rs b P a
  have hz : ∀ q : Int × Int, (q.2 - q.1) * cntF w (prtE w rs) (countsF (bordE rs) b P a q.1) = (q.2 - q.1) * (fun h => hg (cf w) (gH b P a h) 0 rs 0) q.1 := fun q => by rw [F]
  simp only [F]
  rw [e] at hs ⊢
  rw [stz_sum (F := fun h => hg (cf w) (gH b P a h) 0 rs 0) hs hl]
  · rw [hf, Int.zero_add, Int.sub_zero]
    rfl
  · intro q hq h h0 h1
    obtain ⟨a1, a2, a3, a4, a5⟩ := stz_mem hs hl q hq
    have q0 : 0 ≤ q.1 := by
      rcases List.mem_cons.mp a1 with z | z
      · omega
      · have := (List.pairwise_cons.mp hs).1 _ z; omega
    refine hg_congr fun x hx => ?_
    have hx : x ∈ bordE rs := by rw [bordE, bord_pre]; exact hx
    rw [gH_eq hb hP (by omega) (by omega), gH_eq hb hP q0 (by omega)]
    rcases Int.lt_or_eq_of_le h0 with c | c
    · have n1 := nn x
      have n2 := lt x
      have k1 := a5 ((x + a) / b % P) (by rw [← e]; exact (m _).mpr ⟨n2, .inr (.inl ⟨x, hx, rfl⟩)⟩)
      have k2 : (x + a) / b % P = q.1 → False := by
        intro z
        by_cases c3 : (x + a) / b % P + 1 < P
        · have k3 := a5 ((x + a) / b % P + 1) (by rw [← e]; exact (m _).mpr ⟨c3, .inr (.inr ⟨x, hx, rfl⟩)⟩)
          omega
        · omega
      have k3 : (x + a) / b % P ≠ q.1 := k2
      unfold gF
      rcases k1 with k1 | k1
      · rw [if_neg (by omega), if_neg (by omega), if_neg (by omega), if_neg (by omega)]
      · rw [if_pos (by omega), if_pos (by omega)]
    · rw [c]
end KX
/-! What one run adds; joined runs add the same; the sided ways add as each alone. -/
namespace KX
def kd (n : Int) : Option Kd := if looseF .he n then (if unitF .he n % 2 = 1 then some .od else some .ev) else (if unitF .he n % 2 = 1 then some .tu else none)
def va (n : Int) : Int := unitF .he n + (if looseF .he n then unitF .he n % 2 else 0)
def gn : Option Kd → Int → Int → Int
  | some .ev, p, c => if 0 < c then p else 0
  | some .od, p, c => if 0 < c then -p else 0
  | _, _, _ => 0
def pr : Option Kd → Int → Int → Int
  | some .tu, p, c => (p + c) % 2
  | none, p, _ => p
  | _, p, c => if 0 < c then 0 else p
theorem even_mul {c m : Int} (h : m % 2 = 0) : (c * m) % 2 = 0 := by
  obtain ⟨k, e⟩ : ∃ k, m = 2 * k := ⟨m / 2, by omega⟩
  rw [e, show c * (2 * k) = 2 * (c * k) by rw [Int.mul_left_comm]]
  omega
theorem odd_mul {c m : Int} (h : m % 2 = 1) : (c * m) % 2 = c % 2 := by
  obtain ⟨k, e⟩ : ∃ k, m = 2 * k + 1 := ⟨m / 2, by omega⟩
  rw [e, Int.mul_add, show c * (2 * k) = 2 * (c * k) by rw [Int.mul_left_comm]]
  omega
theorem cf_he {st n c : Int} (hc : 0 ≤ c) : cf .he st n c = st + c * va n + gn (kd n) (st % 2) c ∧ cf .he st n c % 2 = pr (kd n) (st % 2) c := by
  unfold cf cst prt va kd
  simp only []
  cases hl : looseF .he n
  · simp only [Bool.not_false, if_true, Bool.false_eq_true, if_false, Int.add_zero]
    by_cases h : unitF .he n % 2 = 1
    · rw [if_pos h]
      have := odd_mul (c := c) h
      simp only [gn, pr]
      omega
    · rw [if_neg h]
      have := even_mul (c := c) (show unitF .he n % 2 = 0 by omega)
      simp only [gn, pr]
      omega
  · simp only [Bool.not_true, Bool.false_eq_true, if_false, if_true]
    by_cases h0 : 0 < c
    · rw [if_pos h0]
      simp only [oftF, addF]
      have em := even_mul (c := c) (show (unitF .he n + unitF .he n % 2) % 2 = 0 by omega)
      have es : (c - 1) * (unitF .he n + unitF .he n % 2) = c * (unitF .he n + unitF .he n % 2) - (unitF .he n + unitF .he n % 2) := by rw [Int.sub_mul, Int.one_mul]
      by_cases h : unitF .he n % 2 = 1
      · rw [if_pos h]
        simp only [gn, pr, if_pos h0]
        omega
      · rw [if_neg h]
        simp only [gn, pr, if_pos h0]
        omega
    · have : c = 0 := by omega
      subst this
      rw [if_neg h0]
      by_cases h : unitF .he n % 2 = 1
      · rw [if_pos h]
        simp [gn, pr]
      · rw [if_neg h]
        simp [gn, pr]
/-! joined runs -/
structure Good (f : Int → Int → Int → Int) : Prop where
  z : ∀ st n, f st n 0 = st
  a : ∀ st n c d, 0 ≤ c → 0 ≤ d → f st n (c + d) = f (f st n c) n d
theorem good_he : Good (cf .he) := by
  refine ⟨fun st n => ?_, fun st n c d hc hd => ?_⟩
  · have e := (cf_he (st := st) (n := n) (Int.le_refl 0)).1
    rw [e]
    unfold gn
    split <;> simp
  · have e1 := (cf_he (st := st) (n := n) (show 0 ≤ c + d by omega)).1
    obtain ⟨e2, p2⟩ := cf_he (st := st) (n := n) hc
    have e3 := (cf_he (st := cf .he st n c) (n := n) hd).1
    rw [e3, p2, e2, e1, Int.add_mul]
    cases h : kd n with
    | none => simp only [gn]; omega
    | some k =>
      cases k <;> simp only [gn, pr]
      · split <;> split <;> split <;> omega
      · split <;> split <;> split <;> omega
      · omega
def sT (es : Ent) : Int := (es.map (·.2)).sum
theorem sT_cons (e : Int × Int) (es : Ent) : sT (e :: es) = e.2 + sT es := List.sum_cons
theorem sT_app : ∀ (a b : Ent), sT (a ++ b) = sT a + sT b
  | [], b => by simp [sT]
  | e :: a, b => by rw [List.cons_append, sT_cons, sT_cons, sT_app a b]; omega
theorem sT_nn : ∀ {es : Ent}, (∀ e ∈ es, 0 ≤ e.2) → 0 ≤ sT es
  | [], _ => Int.le_refl _
  | e :: r, h => by
    rw [sT_cons]
    have := h e (by simp)
    have := sT_nn fun e he => h e (List.mem_cons_of_mem _ he)
    omega
theorem hg_app {f : Int → Int → Int → Int} {g : Int → Int} : ∀ (a b : Ent) (s st : Int), hg f g s (a ++ b) st = hg f g (s + sT a) b (hg f g s a st)
  | [], b, s, st => by simp [sT, hg]
  | e :: a, b, s, st => by
    show hg f g (s + e.2) (a ++ b) _ = hg f g (s + sT (e :: a)) b (hg f g (s + e.2) a _)
    rw [hg_app a b, sT_cons, Int.add_assoc]
theorem step_hg {f : Int → Int → Int → Int} {g : Int → Int} (F : Good f) (G : ∀ x y, x ≤ y → g x ≤ g y) {acc : Ent} {e : Int × Int} (ha : ∀ q ∈ acc, 0 ≤ q.2) (he : 0 ≤ e.2) :
    (∀ s st, hg f g s (formStep acc e) st = hg f g s (acc ++ [e]) st) ∧ sT (formStep acc e) = sT (acc ++ [e]) ∧ ∀ q ∈ formStep acc e, 0 ≤ q.2 := by
  unfold formStep
  by_cases h : 0 < e.2
  · rw [if_pos h]
    rcases List.eq_nil_or_concat acc with c | ⟨l, q, c⟩
    · subst c
      exact ⟨fun _ _ => rfl, rfl, fun q hq => by rw [List.mem_singleton.mp hq]; exact he⟩
    · rw [List.concat_eq_append] at c
      subst c
      have hq : 0 ≤ q.2 := ha q (by simp)
      rw [List.getLast?_concat]
      by_cases h2 : q.1 = e.1
      · simp only [h2, if_true]
        have se : (l ++ [q]).set ((l ++ [q]).length - 1) (e.1, q.2 + e.2) = l ++ [(e.1, q.2 + e.2)] := by
          rw [List.set_append_right _ _ (by simp)]
          simp
        rw [se]
        refine ⟨fun s st => ?_, ?_, fun z hz => ?_⟩
        · rw [hg_app, List.append_assoc, hg_app]
          show f _ e.1 (g (s + sT l + (q.2 + e.2)) - g (s + sT l)) = f (f _ q.1 (g (s + sT l + q.2) - g (s + sT l))) e.1 (g (s + sT l + q.2 + e.2) - g (s + sT l + q.2))
          rw [h2, ← F.a _ _ _ _ (by have := G (s + sT l) (s + sT l + q.2) (by omega); omega) (by have := G (s + sT l + q.2) (s + sT l + q.2 + e.2) (by omega); omega)]
          congr 1
          rw [show s + sT l + (q.2 + e.2) = s + sT l + q.2 + e.2 by omega]
          omega
        · rw [sT_app, sT_app, sT_app]
          simp [sT]
          omega
        · rcases List.mem_append.mp hz with z1 | z1
          · exact ha z (by simp [z1])
          · rw [List.mem_singleton.mp z1]
            show 0 ≤ q.2 + e.2
            omega
      · simp only [h2, if_false]
        exact ⟨fun _ _ => trivial, trivial, fun z hz => by
          rcases List.mem_append.mp hz with z1 | z1
          · exact ha z z1
          · rw [List.mem_singleton.mp z1]; exact he⟩
  · rw [if_neg h]
    have h0 : e.2 = 0 := by omega
    refine ⟨fun s st => ?_, ?_, ha⟩
    · rw [hg_app]
      show _ = f _ e.1 (g (s + sT acc + e.2) - g (s + sT acc))
      rw [h0, Int.add_zero, Int.sub_self, F.z]
    · rw [sT_app, show sT [e] = e.2 + sT [] from sT_cons _ _, h0]
      simp [sT]
theorem fold_hg {f : Int → Int → Int → Int} {g : Int → Int} (F : Good f) (G : ∀ x y, x ≤ y → g x ≤ g y) : ∀ {es acc : Ent}, (∀ q ∈ acc, 0 ≤ q.2) → (∀ q ∈ es, 0 ≤ q.2) →
    (∀ s st, hg f g s (es.foldl formStep acc) st = hg f g s (acc ++ es) st) ∧ sT (es.foldl formStep acc) = sT (acc ++ es) ∧ ∀ q ∈ es.foldl formStep acc, 0 ≤ q.2
  | [], acc, ha, _ => ⟨fun s st => by simp, by simp, ha⟩
  | e :: r, acc, ha, he => by
    obtain ⟨a1, a2, a3⟩ := step_hg F G ha (he e (by simp))
    obtain ⟨b1, b2, b3⟩ := fold_hg F G (es := r) a3 (fun q hq => he q (List.mem_cons_of_mem _ hq))
    refine ⟨fun s st => ?_, ?_, b3⟩
    · rw [List.foldl_cons, b1, hg_app, a1, a2, ← hg_app, List.append_assoc]
      rfl
    · rw [List.foldl_cons, b2, sT_app, a2, ← sT_app, List.append_assoc]
      rfl
theorem form_hg {f : Int → Int → Int → Int} {g : Int → Int} (F : Good f) (G : ∀ x y, x ≤ y → g x ≤ g y) {es : Ent} (he : ∀ q ∈ es, 0 ≤ q.2) (s st : Int) : hg f g s (formF es) st = hg f g s es st :=
  (fold_hg F G (acc := []) (by simp) he).1 s st
theorem form_nn {es : Ent} (he : ∀ q ∈ es, 0 ≤ q.2) : ∀ q ∈ formF es, 0 ≤ q.2 :=
  (fold_hg (g := fun _ => 0) good_he (fun _ _ _ => Int.le_refl _) (acc := []) (by simp) he).2.2
theorem form_sT {es : Ent} (he : ∀ q ∈ es, 0 ≤ q.2) : sT (formF es) = sT es :=
  (fold_hg (g := fun _ => 0) good_he (fun _ _ _ => Int.le_refl _) (acc := []) (by simp) he).2.1
/-! the other ways -/
def sg (w : Way) (n : Int) : Int := divF (wu n) (un n) w
def lf (w : Way) (st n c : Int) : Int := st + c * sg w n
theorem good_lf (w : Way) : Good (lf w) := ⟨fun st n => by simp [lf], fun st n c d _ _ => by simp only [lf, Int.add_mul]; omega⟩
def OkW (w : Way) (es : Ent) : Prop := w ≠ .he ∧ (w = .cu ∨ w = .ha → ∀ e ∈ es, 0 ≤ e.1)
theorem wu_nn {n : Int} (h : 0 ≤ n) : 0 ≤ wu n := by unfold wu; split <;> omega
theorem un_gt (n : Int) : 0 < un n := by unfold un; split <;> omega
theorem cf_lf {w : Way} {st n c : Int} (hw : w ≠ .he) (hn : w = .cu ∨ w = .ha → 0 ≤ n) (hs : w = .cu ∨ w = .ha → 0 ≤ st) (hc : 0 ≤ c) : cf w st n c = lf w st n c ∧ (w = .cu ∨ w = .ha → 0 ≤ cf w st n c) := by
  have key : cf w st n c = lf w st n c := by
    unfold cf cst prt lf sg
    simp only []
    cases w with
    | he => exact absurd rfl hw
    | fl => simp [looseF, unitF]
    | hu => simp [looseF, unitF]
    | cu =>
      have h0 := hn (.inl rfl)
      have s0 := hs (.inl rfl)
      have w0 := wu_nn h0
      have u0 := un_gt n
      have d0 : 0 ≤ wu n / un n := Int.ediv_nonneg w0 (Int.le_of_lt u0)
      have e : divF (wu n) (un n) .cu = wu n / un n := by
        unfold divF liftF
        rw [show decide (wu n < 0) = false from decide_eq_false (by omega)]
        split <;> simp [b2z]
      cases hl : looseF .cu n
      · simp [unitF, hl]
      · have hu : unitF .cu n = wu n / un n := by simp [unitF, hl]
        rw [hu, e]
        simp only [Bool.not_true, Bool.false_eq_true, if_false]
        split
        · have ea : addF .cu st (wu n / un n) = st + wu n / un n := by
            unfold addF
            rw [show decide (st + wu n / un n < 0) = false from decide_eq_false (by omega)]
            simp [b2z]
          unfold oftF
          simp only [ea]
          rw [if_neg (by omega), if_neg (by omega), show st + wu n / un n - st = wu n / un n by omega, Int.sub_self, Int.zero_mul]
          omega
        · have : c = 0 := by omega
          subst this
          simp
    | ha =>
      have h0 := hn (.inr rfl)
      have s0 := hs (.inr rfl)
      have w0 := wu_nn h0
      have u0 := un_gt n
      have d0 : 0 ≤ wu n / un n := Int.ediv_nonneg w0 (Int.le_of_lt u0)
      cases hl : looseF .ha n
      · simp [unitF, hl]
      · have hu : unitF .ha n = wu n / un n := by simp [unitF, hl]
        have e : divF (wu n) (un n) .ha = wu n / un n + 1 := by
          have q : 2 * (wu n % un n) = un n := by simpa [looseF] using hl
          have p : partF (wu n % un n) (un n) = 2 := by
            unfold partF b2z
            rw [if_neg (by omega), show decide (un n < 2 * (wu n % un n)) = false from decide_eq_false (by omega), show decide (2 * (wu n % un n) < un n) = false from decide_eq_false (by omega)]
            rfl
          unfold divF
          rw [p]
          unfold liftF
          rw [show decide (wu n < 0) = false from decide_eq_false (by omega)]
          simp [b2z]
        rw [hu, e]
        simp only [Bool.not_true, Bool.false_eq_true, if_false]
        split
        · have ea : addF .ha st (wu n / un n) = st + wu n / un n + 1 := by
            unfold addF
            rw [show decide (st + wu n / un n < 0) = false from decide_eq_false (by omega)]
            simp [b2z]
          unfold oftF
          simp only [ea]
          rw [if_neg (by omega), if_neg (by omega), show st + wu n / un n + 1 - st = wu n / un n + 1 by omega, Int.sub_self, Int.zero_mul]
          omega
        · have : c = 0 := by omega
          subst this
          simp
  refine ⟨key, fun h => ?_⟩
  rw [key]
  have d : 0 ≤ sg w n := by
    unfold sg divF
    have h0 := hn h
    have w0 := wu_nn h0
    have u0 := un_gt n
    have d0 : 0 ≤ wu n / un n := Int.ediv_nonneg w0 (Int.le_of_lt u0)
    have : 0 ≤ liftF w (partF (wu n % un n) (un n)) (decide (wu n < 0)) (decide (wu n / un n % 2 = 1)) := by
      unfold liftF b2z
      split
      · omega
      · split <;> (try split) <;> (try split) <;> omega
    omega
  have := hs h
  have := Int.mul_nonneg hc d
  unfold lf
  omega
theorem hg_lf {w : Way} {g : Int → Int} (G : ∀ x y, x ≤ y → g x ≤ g y) : ∀ {es : Ent} {s st : Int}, OkW w es → (w = .cu ∨ w = .ha → 0 ≤ st) → (∀ q ∈ es, 0 ≤ q.2) → hg (cf w) g s es st = hg (lf w) g s es st
  | [], _, _, _, _, _ => rfl
  | e :: r, s, st, hw, hs, he => by
    show hg (cf w) g (s + e.2) r _ = hg (lf w) g (s + e.2) r _
    have := G s (s + e.2) (by have := he e (by simp); omega)
    obtain ⟨k1, k2⟩ := cf_lf hw.1 (fun h => hw.2 h e (by simp)) hs (show 0 ≤ g (s + e.2) - g s by omega)
    rw [hg_lf G (es := r) ⟨hw.1, fun h q hq => hw.2 h q (List.mem_cons_of_mem _ hq)⟩ k2 (fun q hq => he q (List.mem_cons_of_mem _ hq)), k1]
end KX
/-! Half to even: no way of giving reaches more than the greedy one. -/
namespace KX
def jn (t : Int) : List (Kd × Int) → List (Kd × Int)
  | (.tu, t') :: q => (.tu, t + t') :: q
  | q => (.tu, t) :: q
def rnk : Option Kd → Int → List (Kd × Int) → List (Kd × Int)
  | none, _, q => q
  | some .tu, t, q => jn t q
  | some .od, t, q => (.od, t) :: q
  | some .ev, t, q => (.ev, t) :: q
def rn : Ent → List (Kd × Int)
  | [] => []
  | e :: r => if 0 < e.2 then rnk (kd e.1) e.2 (rn r) else rn r
def lin : Ent → Int
  | [] => 0
  | e :: r => e.2 * va e.1 + lin r
def glue (acc q : List (Kd × Int)) : List (Kd × Int) := match acc.getLast?, q with
  | some (.tu, t), (.tu, t') :: r => acc.dropLast ++ (.tu, t + t') :: r
  | _, q => acc ++ q
theorem glue_nil (acc : List (Kd × Int)) : glue acc [] = acc := by
  unfold glue
  split
  · rename_i h; cases h
  · simp
theorem glue_k {k : Kd} (hk : k ≠ .tu) (acc : List (Kd × Int)) (t : Int) (q : List (Kd × Int)) : glue (acc ++ [(k, t)]) q = glue acc ((k, t) :: q) := by
  have e1 : glue (acc ++ [(k, t)]) q = acc ++ [(k, t)] ++ q := by
    unfold glue
    rw [List.getLast?_concat]
    split
    · rename_i h; cases h; exact absurd rfl hk
    · rfl
  have e2 : glue acc ((k, t) :: q) = acc ++ (k, t) :: q := by
    unfold glue
    split
    · rename_i h; cases h; exact absurd rfl hk
    · rfl
  rw [e1, e2, List.append_assoc]
  rfl
theorem glue_last (l : List (Kd × Int)) (t t' : Int) (q : List (Kd × Int)) : glue (l ++ [(.tu, t)]) (jn t' q) = glue (l ++ [(.tu, t + t')]) q := by
  unfold glue
  rw [List.getLast?_concat, List.getLast?_concat]
  cases q with
  | nil => simp [jn]
  | cons x q =>
    obtain ⟨k, u⟩ := x
    cases k <;> simp [jn]
    omega
theorem glue_new {acc : List (Kd × Int)} (ha : ∀ t, acc.getLast? ≠ some (.tu, t)) (t : Int) (q : List (Kd × Int)) : glue (acc ++ [(.tu, t)]) q = glue acc (jn t q) := by
  have e2 : ∀ q, glue acc q = acc ++ q := by
    intro q
    unfold glue
    split
    · rename_i h; exact absurd h (ha _)
    · rfl
  rw [e2]
  unfold glue
  rw [List.getLast?_concat]
  cases q with
  | nil => simp [jn]
  | cons x q =>
    obtain ⟨k, u⟩ := x
    cases k <;> simp [jn]
theorem runs_go : ∀ (es : Ent) (s : Int) (acc : List (Kd × Int)), (∀ e ∈ es, 0 ≤ e.2) → es.foldl runStep (s, acc) = (s + lin es, glue acc (rn es))
  | [], s, acc, _ => by simp [lin, rn, glue_nil]
  | e :: r, s, acc, he => by
    have hr : ∀ q ∈ r, 0 ≤ q.2 := fun q hq => he q (List.mem_cons_of_mem _ hq)
    have h0 := he e (by simp)
    rw [List.foldl_cons]
    by_cases ht : 0 < e.2
    · rw [rn, if_pos ht]
      conv => lhs; arg 2; unfold runStep
      cases hl : looseF .he e.1
      · by_cases hu : unitF .he e.1 % 2 = 1
        · have k : kd e.1 = some .tu := by unfold kd; rw [hl]; simp [hu]
          have v : va e.1 = unitF .he e.1 := by unfold va; rw [hl]; simp
          simp only [hl, hu, ht, Bool.false_eq_true, false_and, if_false, true_and, if_true, k, rnk]
          rcases List.eq_nil_or_concat acc with c | ⟨l, q, c⟩
          · subst c
            simp only [List.getLast?_nil]
            rw [runs_go r _ _ hr, glue_new (by simp), lin, v]
            simp only [Prod.mk.injEq, and_true]
            omega
          · rw [List.concat_eq_append] at c
            subst c
            obtain ⟨k, t0⟩ := q
            rw [List.getLast?_concat]
            cases k
            · simp only []
              rw [runs_go r _ _ hr, glue_new (by simp), lin, v]
              simp only [Prod.mk.injEq, and_true]
              omega
            · simp only []
              rw [runs_go r _ _ hr, glue_new (by simp), lin, v]
              simp only [Prod.mk.injEq, and_true]
              omega
            · simp only []
              have se : (l ++ [(Kd.tu, t0)]).set ((l ++ [(Kd.tu, t0)]).length - 1) (.tu, t0 + e.2) = l ++ [(.tu, t0 + e.2)] := by
                rw [List.set_append_right _ _ (by simp)]
                simp
              rw [se, runs_go r _ _ hr, glue_last, lin, v]
              simp only [Prod.mk.injEq, and_true]
              omega
        · have k : kd e.1 = none := by unfold kd; rw [hl]; simp [hu]
          have v : va e.1 = unitF .he e.1 := by unfold va; rw [hl]; simp
          simp only [hl, hu, Bool.false_eq_true, false_and, if_false, k, rnk]
          rw [runs_go r _ _ hr, lin, v]
          simp only [Prod.mk.injEq, and_true]
          omega
      · have v : e.2 * va e.1 = e.2 * unitF .he e.1 + e.2 * (unitF .he e.1 % 2) := by unfold va; rw [hl, if_pos rfl, Int.mul_add]
        by_cases hu : unitF .he e.1 % 2 = 1
        · have k : kd e.1 = some .od := by unfold kd; rw [hl]; simp [hu]
          simp only [ht, and_self, if_true, k, rnk]
          rw [runs_go r _ _ hr, lin, v, if_pos hu, glue_k (by decide)]
          simp only [Prod.mk.injEq, and_true]
          omega
        · have k : kd e.1 = some .ev := by unfold kd; rw [hl]; simp [hu]
          simp only [ht, and_self, if_true, k, rnk]
          rw [runs_go r _ _ hr, lin, v, if_neg hu, glue_k (by decide)]
          simp only [Prod.mk.injEq, and_true]
          omega
    · have e0 : e.2 = 0 := by omega
      rw [rn, if_neg ht]
      have s0 : runStep (s, acc) e = (s, acc) := by
        unfold runStep
        simp [e0]
      rw [s0, runs_go r _ _ hr, lin, e0, Int.zero_mul, Int.zero_add]
theorem runs_eq {es : Ent} (he : ∀ e ∈ es, 0 ≤ e.2) : runsF es = (lin es, rn es) := by
  unfold runsF
  rw [runs_go es 0 [] he, Int.zero_add]
  congr 1
theorem jn_pos {t : Int} (ht : 0 < t) : ∀ {q : List (Kd × Int)}, (∀ x ∈ q, 0 < x.2) → ∀ x ∈ jn t q, 0 < x.2
  | [], _, x, hx => by rw [List.mem_singleton.mp hx]; exact ht
  | (.tu, t') :: q, h, x, hx => by
    rcases List.mem_cons.mp hx with e | e
    · rw [e]
      have := h (.tu, t') (by simp)
      show 0 < t + t'
      have : 0 < t' := this
      omega
    · exact h x (List.mem_cons_of_mem _ e)
  | (.od, t') :: q, h, x, hx => by
    rcases List.mem_cons.mp hx with e | e
    · rw [e]; exact ht
    · exact h x e
  | (.ev, t') :: q, h, x, hx => by
    rcases List.mem_cons.mp hx with e | e
    · rw [e]; exact ht
    · exact h x e
theorem rn_pos : ∀ (es : Ent), ∀ x ∈ rn es, 0 < x.2
  | [], x, hx => absurd hx (by simp [rn])
  | e :: r, x, hx => by
    rw [rn] at hx
    have ih := rn_pos r
    split at hx
    · rename_i ht
      cases k : kd e.1 with
      | none => rw [k] at hx; exact ih x hx
      | some k' =>
        rw [k] at hx
        cases k' with
        | tu => exact jn_pos ht ih x hx
        | od =>
          rcases List.mem_cons.mp hx with e | e
          · rw [e]; exact ht
          · exact ih x e
        | ev =>
          rcases List.mem_cons.mp hx with e | e
          · rw [e]; exact ht
          · exact ih x e
    · exact ih x hx
/-- what any way of giving may reach: T more than the plain sum, N odd houses -/
def Pl (P : Int) : List (Kd × Int) → Int → Int → Int → Prop
  | [], T, _, T' => T' = T
  | (.tu, t) :: r, T, N, T' => ∃ M, 0 ≤ M ∧ M ≤ P ∧ M ≤ N + t ∧ (M - N - t) % 2 = 0 ∧ Pl P r T M T'
  | (.ev, t) :: r, T, N, T' => ∃ g, 0 ≤ g ∧ g ≤ N ∧ g ≤ t ∧ Pl P r (T + g) (N - g) T'
  | (.od, t) :: r, T, N, T' => ∃ l, 0 ≤ l ∧ l ≤ N ∧ (N = P → 1 ≤ l) ∧ Pl P r (T - l) (N - l) T'
theorem pl_jn {P t T N M T' : Int} {q : List (Kd × Int)} (m0 : 0 ≤ M) (m1 : M ≤ P) (m2 : M ≤ N + t) (m3 : (M - N - t) % 2 = 0) (h : Pl P q T M T') : Pl P (jn t q) T N T' := by
  match q, h with
  | [], h => exact ⟨M, m0, m1, m2, m3, h⟩
  | (.od, t') :: q, h => exact ⟨M, m0, m1, m2, m3, h⟩
  | (.ev, t') :: q, h => exact ⟨M, m0, m1, m2, m3, h⟩
  | (.tu, t') :: q, ⟨R, r0, r1, r2, r3, h⟩ => exact ⟨R, r0, r1, by omega, by omega, h⟩
theorem pl_best {P : Int} (hP : 0 < P) : ∀ (n : Nat) (rs : List (Kd × Int)), rs.length ≤ n → ∀ (T N T' U M : Int), Pl P rs T N T' → (∀ x ∈ rs, 0 < x.2) → 0 ≤ N → N ≤ P → 0 ≤ M → M ≤ P →
    T ≤ U → T + N ≤ U + M → (T + N - U - M) % 2 = 0 → T' ≤ bestGo P rs U M := by
  intro n
  induction n with
  | zero =>
    intro rs hn T N T' U M h _ _ _ _ _ h1 _ _
    match rs, h with
    | [], h =>
      have h : T' = T := h
      rw [h]
      exact h1
  | succ n ih =>
    intro rs hn T N T' U M h hp n0 n1 m0 m1 h1 h2 h3
    match rs, h, hn, hp with
    | [], h, _, _ =>
      have h : T' = T := h
      rw [h]
      exact h1
    | (.ev, t) :: r, ⟨g, g0, g1, g2, h⟩, hn, hp =>
      have ht : 0 < t := hp (.ev, t) (by simp)
      show T' ≤ bestGo P r (U + mn M t) (M - mn M t)
      refine ih r (by simpa using hn) _ _ _ _ _ h (fun x hx => hp x (List.mem_cons_of_mem _ hx)) (by omega) (by omega) ?_ ?_ ?_ ?_ ?_ <;> (unfold mn; split <;> omega)
    | (.od, t) :: r, ⟨l, l0, l1, l2, h⟩, hn, hp =>
      have hp' : ∀ x ∈ r, 0 < x.2 := fun x hx => hp x (List.mem_cons_of_mem _ hx)
      show T' ≤ (if P = 1 ∧ M = 1 then bestGo P r (U - 1) 0 else bestGo P r U M)
      split
      · exact ih r (by simpa using hn) _ _ _ _ _ h hp' (by omega) (by omega) (by omega) (by omega) (by omega) (by omega) (by omega)
      · exact ih r (by simpa using hn) _ _ _ _ _ h hp' (by omega) (by omega) (by omega) (by omega) (by omega) (by omega) (by omega)
    | (.tu, t) :: r, ⟨R, r0, r1, r2, r3, h⟩, hn, hp =>
      have ht : 0 < t := hp (.tu, t) (by simp)
      have hp' : ∀ x ∈ r, 0 < x.2 := fun x hx => hp x (List.mem_cons_of_mem _ hx)
      have hn' : r.length ≤ n := by simpa using hn
      have plain : ∀ av, (av = true → ¬ (mn P (M + t) - (M + t - mn P (M + t)) % 2 = P ∧ 1 < P)) → T' ≤ bestGo P r U (oddHF M t P av) := by
        intro av ha
        have e : oddHF M t P av = mn P (M + t) - (M + t - mn P (M + t)) % 2 := by
          unfold oddHF
          simp only []
          rw [if_neg]
          intro ⟨a1, a2, a3⟩
          exact ha a1 ⟨a2, a3⟩
        rw [e]
        refine ih r hn' _ _ _ _ _ h hp' r0 r1 ?_ ?_ h1 ?_ ?_ <;> (unfold mn; split <;> omega)
      match r, h, hp', hn', plain with
      | [], h, _, _, plain => exact plain false (by simp)
      | (.ev, t') :: q, h, _, _, plain => exact plain false (by simp)
      | (.tu, t') :: q, h, _, _, plain => exact plain false (by simp)
      | (.od, t') :: q, h, hp', hn', plain =>
        show T' ≤ bestGo P ((.od, t') :: q) U (oddHF M t P true)
        by_cases c : mn P (M + t) - (M + t - mn P (M + t)) % 2 = P ∧ 1 < P
        · have e : oddHF M t P true = P - 2 := by
            unfold oddHF
            simp only []
            rw [if_pos ⟨trivial, c.1, c.2⟩, c.1]
          rw [e]
          obtain ⟨l, l0, l1, l2, h⟩ := h
          show T' ≤ (if P = 1 ∧ P - 2 = 1 then bestGo P q (U - 1) 0 else bestGo P q U (P - 2))
          rw [if_neg (by omega)]
          have c1 := c.1
          have cc : (P - M - t) % 2 = 0 ∧ P ≤ M + t := by
            unfold mn at c1
            split at c1 <;> omega
          exact ih q (by simp at hn'; omega) _ _ _ _ _ h (fun x hx => hp' x (List.mem_cons_of_mem _ hx)) (by omega) (by omega) (by omega) (by omega) (by omega) (by omega) (by omega)
        · exact plain true (fun _ => c)
/-! columns -/
theorem col_tu {p c : Int → Int} : ∀ {n : Nat}, (∀ h : Int, 0 ≤ h → h < (n : Int) → 0 ≤ p h ∧ p h ≤ 1) → (∀ h : Int, 0 ≤ h → h < (n : Int) → 0 ≤ c h) →
    0 ≤ sI (fun h => (p h + c h) % 2) 0 n ∧ sI (fun h => (p h + c h) % 2) 0 n ≤ n ∧ sI (fun h => (p h + c h) % 2) 0 n ≤ sI p 0 n + sI c 0 n ∧ (sI (fun h => (p h + c h) % 2) 0 n - sI p 0 n - sI c 0 n) % 2 = 0
  | 0, _, _ => by simp [sI]
  | n + 1, hp, hc => by
    have ih := col_tu (p := p) (c := c) (n := n) (fun h a b => hp h a (by omega)) (fun h a b => hc h a (by omega))
    have h1 := hp (0 + n) (by omega) (by omega)
    have h2 := hc (0 + n) (by omega) (by omega)
    simp only [sI]
    omega
theorem col_l {p c : Int → Int} : ∀ {n : Nat}, (∀ h : Int, 0 ≤ h → h < (n : Int) → 0 ≤ p h ∧ p h ≤ 1) → (∀ h : Int, 0 ≤ h → h < (n : Int) → 0 ≤ c h) →
    0 ≤ sI (fun h => if 0 < c h then p h else 0) 0 n ∧ sI (fun h => if 0 < c h then p h else 0) 0 n ≤ sI p 0 n ∧ sI (fun h => if 0 < c h then p h else 0) 0 n ≤ sI c 0 n ∧
    sI (fun h => if 0 < c h then 0 else p h) 0 n = sI p 0 n - sI (fun h => if 0 < c h then p h else 0) 0 n ∧
    0 ≤ sI p 0 n ∧ sI p 0 n ≤ n ∧ 0 ≤ sI c 0 n ∧ (0 < sI c 0 n → sI p 0 n = n → 1 ≤ sI (fun h => if 0 < c h then p h else 0) 0 n)
  | 0, _, _ => by simp [sI]
  | n + 1, hp, hc => by
    have ih := col_l (p := p) (c := c) (n := n) (fun h a b => hp h a (by omega)) (fun h a b => hc h a (by omega))
    have h1 := hp (0 + n) (by omega) (by omega)
    have h2 := hc (0 + n) (by omega) (by omega)
    simp only [sI]
    split <;> omega
/-- any way of giving is a play -/
theorem pl_of {P : Int} (hP : 0 < P) {g : Int → Int → Int} (G : ∀ h, 0 ≤ h → h < P → ∀ x y, x ≤ y → g h x ≤ g h y) (S : ∀ x y, sI (fun h => g h y - g h x) 0 P.toNat = y - x) :
    ∀ (es : Ent) (s : Int) (st : Int → Int) (T : Int), (∀ e ∈ es, 0 ≤ e.2) →
    Pl P (rn es) T (sI (fun h => st h % 2) 0 P.toNat) (T + (sI (fun h => hg (cf .he) (g h) s es (st h)) 0 P.toNat - sI st 0 P.toNat - lin es))
  | [], s, st, T, _ => by
    show T + (sI st 0 P.toNat - sI st 0 P.toNat - 0) = T
    omega
  | e :: r, s, st, T, he => by
    have hr : ∀ q ∈ r, 0 ≤ q.2 := fun q hq => he q (List.mem_cons_of_mem _ hq)
    have h0 := he e (by simp)
    have hPn : (P.toNat : Int) = P := by omega
    have c0 : ∀ h, 0 ≤ h → h < (P.toNat : Int) → 0 ≤ g h (s + e.2) - g h s := fun h a b => by
      have := G h a (by omega) s (s + e.2) (by omega)
      omega
    have cS := S s (s + e.2)
    have pb : ∀ h, 0 ≤ h → h < (P.toNat : Int) → 0 ≤ st h % 2 ∧ st h % 2 ≤ 1 := fun h _ _ => by omega
    have L1 := col_tu (p := fun h => st h % 2) (c := fun h => g h (s + e.2) - g h s) pb c0
    have L2 := col_l (p := fun h => st h % 2) (c := fun h => g h (s + e.2) - g h s) pb c0
    have ih := pl_of hP G S r (s + e.2) (fun h => cf .he (st h) e.1 (g h (s + e.2) - g h s)) (T + sI (fun h => gn (kd e.1) (st h % 2) (g h (s + e.2) - g h s)) 0 P.toNat) hr
    have E1 : sI (fun h => cf .he (st h) e.1 (g h (s + e.2) - g h s)) 0 P.toNat = sI st 0 P.toNat + e.2 * va e.1 + sI (fun h => gn (kd e.1) (st h % 2) (g h (s + e.2) - g h s)) 0 P.toNat := by
      have : sI (fun h => cf .he (st h) e.1 (g h (s + e.2) - g h s)) 0 P.toNat = sI (fun h => (st h + (g h (s + e.2) - g h s) * va e.1) + gn (kd e.1) (st h % 2) (g h (s + e.2) - g h s)) 0 P.toNat :=
        sI_congr fun h a b => (cf_he (c0 h a (by omega))).1
      rw [this, sI_lin (F := fun h => st h + (g h (s + e.2) - g h s) * va e.1), sI_lin (F := st), sI_mul, cS, show s + e.2 - s = e.2 by omega]
    have E2 : sI (fun h => cf .he (st h) e.1 (g h (s + e.2) - g h s) % 2) 0 P.toNat = sI (fun h => pr (kd e.1) (st h % 2) (g h (s + e.2) - g h s)) 0 P.toNat :=
      sI_congr fun h a b => (cf_he (c0 h a (by omega))).2
    rw [E1, E2] at ih
    have goalE : sI (fun h => hg (cf .he) (g h) s (e :: r) (st h)) 0 P.toNat = sI (fun h => hg (cf .he) (g h) (s + e.2) r (cf .he (st h) e.1 (g h (s + e.2) - g h s))) 0 P.toNat := rfl
    rw [goalE]
    generalize sI (fun h => hg (cf .he) (g h) (s + e.2) r (cf .he (st h) e.1 (g h (s + e.2) - g h s))) 0 P.toNat = X at ih ⊢
    rw [show s + e.2 - s = e.2 by omega] at cS
    by_cases ht : 0 < e.2
    · rw [rn, if_pos ht]
      show Pl P _ T _ (T + (X - sI st 0 P.toNat - (e.2 * va e.1 + lin r)))
      cases k : kd e.1 with
      | none =>
        rw [k] at ih
        simp only [gn, pr] at ih
        have z : sI (fun _ => (0 : Int)) 0 P.toNat = 0 := by rw [sI_const (c := 0) (fun _ _ _ => rfl)]; simp
        rw [z] at ih
        rw [show T + (X - sI st 0 P.toNat - (e.2 * va e.1 + lin r)) = T + 0 + (X - (sI st 0 P.toNat + e.2 * va e.1 + 0) - lin r) by omega]
        rw [Int.add_zero] at ih ⊢
        exact ih
      | some k' =>
        rw [k] at ih
        cases k' with
        | tu =>
          simp only [gn, pr] at ih
          have z : sI (fun _ => (0 : Int)) 0 P.toNat = 0 := by rw [sI_const (c := 0) (fun _ _ _ => rfl)]; simp
          rw [z] at ih
          rw [show T + (X - sI st 0 P.toNat - (e.2 * va e.1 + lin r)) = T + 0 + (X - (sI st 0 P.toNat + e.2 * va e.1 + 0) - lin r) by omega]
          rw [Int.add_zero T] at ih ⊢
          exact pl_jn L1.1 (by omega) (by omega) (by omega) ih
        | ev =>
          simp only [gn, pr] at ih
          refine ⟨_, L2.1, L2.2.1, by omega, ?_⟩
          rw [L2.2.2.2.1] at ih
          rw [show T + (X - sI st 0 P.toNat - (e.2 * va e.1 + lin r)) = T + sI (fun h => if 0 < g h (s + e.2) - g h s then st h % 2 else 0) 0 P.toNat + (X - (sI st 0 P.toNat + e.2 * va e.1 + sI (fun h => if 0 < g h (s + e.2) - g h s then st h % 2 else 0) 0 P.toNat) - lin r) by omega]
          exact ih
        | od =>
          simp only [gn, pr] at ih
          have n1 : sI (fun h => if 0 < g h (s + e.2) - g h s then -(st h % 2) else 0) 0 P.toNat = -sI (fun h => if 0 < g h (s + e.2) - g h s then st h % 2 else 0) 0 P.toNat := by
            rw [← sI_neg]
            exact sI_congr fun h _ _ => by split <;> omega
          refine ⟨sI (fun h => if 0 < g h (s + e.2) - g h s then st h % 2 else 0) 0 P.toNat, L2.1, L2.2.1, fun q => L2.2.2.2.2.2.2.2 (by omega) (by omega), ?_⟩
          rw [L2.2.2.2.1, n1] at ih
          rw [show T + (X - sI st 0 P.toNat - (e.2 * va e.1 + lin r)) = T + -sI (fun h => if 0 < g h (s + e.2) - g h s then st h % 2 else 0) 0 P.toNat + (X - (sI st 0 P.toNat + e.2 * va e.1 + -sI (fun h => if 0 < g h (s + e.2) - g h s then st h % 2 else 0) 0 P.toNat) - lin r) by omega]
          rw [Int.sub_eq_add_neg]
          exact ih
    · have e0 : e.2 = 0 := by omega
      rw [rn, if_neg ht]
      have cz : ∀ h, 0 ≤ h → h < 0 + (P.toNat : Int) → g h (s + e.2) - g h s = 0 := fun h _ _ => by rw [e0, Int.add_zero]; omega
      have z1 : sI (fun h => gn (kd e.1) (st h % 2) (g h (s + e.2) - g h s)) 0 P.toNat = 0 := by
        rw [sI_const (c := 0) fun h a b => ?_]
        · simp
        · rw [cz h a b]
          unfold gn
          split <;> simp
      have z2 : sI (fun h => pr (kd e.1) (st h % 2) (g h (s + e.2) - g h s)) 0 P.toNat = sI (fun h => st h % 2) 0 P.toNat := by
        refine sI_congr fun h a b => ?_
        rw [cz h a b]
        unfold pr
        split <;> simp <;> omega
      rw [z1, z2] at ih
      show Pl P _ T _ (T + (X - sI st 0 P.toNat - (e.2 * va e.1 + lin r)))
      rw [show T + (X - sI st 0 P.toNat - (e.2 * va e.1 + lin r)) = T + 0 + (X - (sI st 0 P.toNat + e.2 * va e.1 + 0) - lin r) by omega]
      rw [Int.add_zero] at ih ⊢
      exact ih
/-- any way of giving keeps below best_given -/
theorem giv_le {P : Int} (hP : 0 < P) {g : Int → Int → Int} (G : ∀ h, 0 ≤ h → h < P → ∀ x y, x ≤ y → g h x ≤ g h y) (S : ∀ x y, sI (fun h => g h y - g h x) 0 P.toNat = y - x)
    {es : Ent} (he : ∀ e ∈ es, 0 ≤ e.2) : sI (fun h => hg (cf .he) (g h) 0 es 0) 0 P.toNat ≤ bestF es P := by
  have h := pl_of hP G S es 0 (fun _ => 0) (lin es) he
  have z : sI (fun _ => (0 : Int)) 0 P.toNat = 0 := by rw [sI_const (c := 0) (fun _ _ _ => rfl)]; simp
  simp only [Int.zero_emod] at h
  rw [z] at h
  unfold bestF
  rw [runs_eq he]
  show _ ≤ bestGo P (rn es) (lin es) 0
  have := pl_best hP _ (rn es) (Nat.le_refl _) _ _ _ (lin es) 0 h (rn_pos es) (by omega) (by omega) (by omega) (by omega) (by omega) (by omega) (by omega)
  omega
end KX
/-! best_given: rises with the houses, stays from enough on, at one house the running total; negation; the ends of all orders. -/
namespace KX
theorem odd_ok {M t P : Int} {av : Bool} (hP : 0 < P) (ht : 0 < t) (m0 : 0 ≤ M) : 0 ≤ oddHF M t P av ∧ oddHF M t P av ≤ P ∧ oddHF M t P av ≤ M + t ∧ (oddHF M t P av - M - t) % 2 = 0 := by
  unfold oddHF mn
  simp only []
  split <;> split <;> omega
/-- the greedy way at P is a way at more than P -/
theorem best_pl {P Q : Int} (hP : 0 < P) (hQ : P < Q) : ∀ (rs : List (Kd × Int)) (T N : Int), (∀ x ∈ rs, 0 < x.2) → 0 ≤ N → N ≤ P → Pl Q rs T N (bestGo P rs T N)
  | [], T, N, _, _, _ => rfl
  | (.tu, t) :: r, T, N, hp, n0, n1 => by
    have ht : 0 < t := hp (.tu, t) (by simp)
    obtain ⟨av, e⟩ : ∃ av, bestGo P ((.tu, t) :: r) T N = bestGo P r T (oddHF N t P av) := ⟨_, rfl⟩
    obtain ⟨a1, a2, a3, a4⟩ := odd_ok (av := av) hP ht n0
    rw [e]
    exact ⟨_, a1, by omega, a3, a4, best_pl hP hQ r T _ (fun x hx => hp x (List.mem_cons_of_mem _ hx)) a1 a2⟩
  | (.ev, t) :: r, T, N, hp, n0, n1 => by
    have ht : 0 < t := hp (.ev, t) (by simp)
    have h : 0 ≤ mn N t ∧ mn N t ≤ N ∧ mn N t ≤ t := by unfold mn; split <;> omega
    exact ⟨mn N t, h.1, h.2.1, h.2.2, best_pl hP hQ r _ _ (fun x hx => hp x (List.mem_cons_of_mem _ hx)) (by omega) (by omega)⟩
  | (.od, t) :: r, T, N, hp, n0, n1 => by
    have hp' : ∀ x ∈ r, 0 < x.2 := fun x hx => hp x (List.mem_cons_of_mem _ hx)
    show ∃ l, 0 ≤ l ∧ l ≤ N ∧ (N = Q → 1 ≤ l) ∧ Pl Q r (T - l) (N - l) (if P = 1 ∧ N = 1 then bestGo P r (T - 1) 0 else bestGo P r T N)
    split
    · rename_i h
      refine ⟨1, by omega, by omega, fun _ => by omega, ?_⟩
      rw [h.2]
      exact best_pl hP hQ r _ _ hp' (by omega) (by omega)
    · refine ⟨0, by omega, by omega, fun _ => by omega, ?_⟩
      rw [Int.sub_zero, Int.sub_zero]
      exact best_pl hP hQ r _ _ hp' n0 n1
theorem best_mono {es : Ent} (he : ∀ e ∈ es, 0 ≤ e.2) {P Q : Int} (hP : 0 < P) (hQ : P ≤ Q) : bestF es P ≤ bestF es Q := by
  rcases Int.lt_or_eq_of_le hQ with h | h
  · unfold bestF
    rw [runs_eq he]
    exact pl_best (by omega) _ (rn es) (Nat.le_refl _) _ _ _ _ 0 (best_pl hP h (rn es) (lin es) 0 (rn_pos es) (by omega) (by omega)) (rn_pos es) (by omega) (by omega) (by omega) (by omega) (by omega) (by omega) (by omega)
  · rw [h]
    exact Int.le_refl _
def sR : List (Kd × Int) → Int
  | [] => 0
  | x :: r => x.2 + sR r
theorem sR_jn (t : Int) : ∀ q, sR (jn t q) = t + sR q
  | [] => rfl
  | (.tu, t') :: q => by show t + t' + sR q = t + (t' + sR q); omega
  | (.od, t') :: q => rfl
  | (.ev, t') :: q => rfl
theorem sR_rn : ∀ {es : Ent}, (∀ e ∈ es, 0 ≤ e.2) → sR (rn es) ≤ sT es
  | [], _ => Int.le_refl _
  | e :: r, he => by
    have ih := sR_rn fun q hq => he q (List.mem_cons_of_mem _ hq)
    have h0 := he e (by simp)
    rw [rn, sT_cons]
    split
    · cases k : kd e.1 with
      | none => simp only [rnk]; omega
      | some k' =>
        cases k'
        · simp only [rnk, sR]; omega
        · simp only [rnk, sR]; omega
        · simp only [rnk, sR_jn]; omega
    · omega
theorem sR_nn : ∀ {rs : List (Kd × Int)}, (∀ x ∈ rs, 0 < x.2) → 0 ≤ sR rs
  | [], _ => Int.le_refl _
  | x :: r, h => by
    have := sR_nn fun q hq => h q (List.mem_cons_of_mem _ hq)
    have := h x (by simp)
    simp only [sR]
    omega
/-- with more houses than any odd count all stays -/
theorem best_far {P Q : Int} (hP : 1 < P) (hQ : 1 < Q) : ∀ (rs : List (Kd × Int)) (T N : Int), (∀ x ∈ rs, 0 < x.2) → 0 ≤ N → N + sR rs < P → N + sR rs < Q → bestGo P rs T N = bestGo Q rs T N
  | [], _, _, _, _, _, _ => rfl
  | (.tu, t) :: r, T, N, hp, n0, n1, n2 => by
    have hp' : ∀ x ∈ r, 0 < x.2 := fun x hx => hp x (List.mem_cons_of_mem _ hx)
    have ht : 0 < t := hp (.tu, t) (by simp)
    have s0 := sR_nn hp'
    have n1 : N + (t + sR r) < P := n1
    have n2 : N + (t + sR r) < Q := n2
    have e : ∀ (R : Int) (av : Bool), N + (t + sR r) < R → oddHF N t R av = N + t := by
      intro R av h
      unfold oddHF mn
      simp only []
      split <;> split <;> omega
    show bestGo P r T (oddHF N t P _) = bestGo Q r T (oddHF N t Q _)
    rw [e P _ n1, e Q _ n2]
    exact best_far hP hQ r _ _ hp' (by omega) (by omega) (by omega)
  | (.ev, t) :: r, T, N, hp, n0, n1, n2 => by
    have ht : 0 < t := hp (.ev, t) (by simp)
    have n1 : N + (t + sR r) < P := n1
    have n2 : N + (t + sR r) < Q := n2
    have h : 0 ≤ mn N t ∧ mn N t ≤ N ∧ mn N t ≤ t := by unfold mn; split <;> omega
    exact best_far hP hQ r _ _ (fun x hx => hp x (List.mem_cons_of_mem _ hx)) (by omega) (by omega) (by omega)
  | (.od, t) :: r, T, N, hp, n0, n1, n2 => by
    have ht : 0 < t := hp (.od, t) (by simp)
    have n1 : N + (t + sR r) < P := n1
    have n2 : N + (t + sR r) < Q := n2
    show (if P = 1 ∧ N = 1 then bestGo P r (T - 1) 0 else bestGo P r T N) = (if Q = 1 ∧ N = 1 then bestGo Q r (T - 1) 0 else bestGo Q r T N)
    rw [if_neg (by omega), if_neg (by omega)]
    exact best_far hP hQ r _ _ (fun x hx => hp x (List.mem_cons_of_mem _ hx)) (by omega) (by omega) (by omega)
theorem bestF_far {es : Ent} (he : ∀ e ∈ es, 0 ≤ e.2) {P Q : Int} (hP : topP es ≤ P) (hQ : topP es ≤ Q) : bestF es P = bestF es Q := by
  have h := sR_rn he
  have t : topP es = 2 + sT es := rfl
  have := sT_nn he
  unfold bestF
  rw [runs_eq he]
  exact best_far (by omega) (by omega) (rn es) _ 0 (rn_pos es) (by omega) (by omega) (by omega)
theorem bs_ok {p : Int → Bool} (hm : ∀ i j, 1 ≤ i → i ≤ j → p i = true → p j = true) : ∀ (n : Nat) (lo hi : Int), 1 ≤ lo → lo ≤ hi → hi - lo ≤ n → p hi = true →
    lo ≤ bsF p n lo hi ∧ bsF p n lo hi ≤ hi ∧ p (bsF p n lo hi) = true ∧ (lo < bsF p n lo hi → p (bsF p n lo hi - 1) = false)
  | 0, lo, hi, h1, h2, h3, h4 => by
    have e : lo = hi := by omega
    subst e
    exact ⟨Int.le_refl _, Int.le_refl _, h4, fun q => absurd q (Int.lt_irrefl _)⟩
  | n + 1, lo, hi, h1, h2, h3, h4 => by
    unfold bsF
    by_cases c : lo < hi
    · rw [if_pos c]
      cases hq : p ((lo + hi) / 2)
      · simp only [Bool.false_eq_true, if_false]
        obtain ⟨a1, a2, a3, a4⟩ := bs_ok hm n ((lo + hi) / 2 + 1) hi (by omega) (by omega) (by omega) h4
        refine ⟨by omega, a2, a3, fun _ => ?_⟩
        by_cases d : (lo + hi) / 2 + 1 < bsF p n ((lo + hi) / 2 + 1) hi
        · exact a4 d
        · rw [show bsF p n ((lo + hi) / 2 + 1) hi - 1 = (lo + hi) / 2 by omega]
          exact hq
      · simp only [if_true]
        obtain ⟨a1, a2, a3, a4⟩ := bs_ok hm n lo ((lo + hi) / 2) h1 (by omega) (by omega) hq
        exact ⟨a1, by omega, a3, a4⟩
    · have e : lo = hi := by omega
      subst e
      rw [if_neg c]
      exact ⟨Int.le_refl _, Int.le_refl _, h4, fun q => absurd q (Int.lt_irrefl _)⟩
theorem eno_ok {es : Ent} (he : ∀ e ∈ es, 0 ≤ e.2) {F : Int} (hF : topP es ≤ F) : 1 ≤ enoF es ∧ bestF es (enoF es) = bestF es F ∧ (1 < enoF es → bestF es (enoF es - 1) ≠ bestF es F) := by
  have t0 := sT_nn he
  have t : topP es = 2 + sT es := rfl
  have hm : ∀ i j, 1 ≤ i → i ≤ j → decide (bestF es i = bestF es (topP es)) = true → decide (bestF es j = bestF es (topP es)) = true := by
    intro i j hi hj h
    have h := of_decide_eq_true h
    refine decide_eq_true ?_
    rcases Int.le_total j (topP es) with c | c
    · have a := best_mono he (show 0 < i by omega) hj
      have b := best_mono he (show 0 < j by omega) c
      omega
    · exact bestF_far he c (Int.le_refl _)
  obtain ⟨a1, a2, a3, a4⟩ := bs_ok hm (topP es - 1).toNat 1 (topP es) (Int.le_refl _) (by omega) (by omega) (decide_eq_true rfl)
  rw [← bestF_far he (Int.le_refl (topP es)) hF]
  exact ⟨a1, of_decide_eq_true a3, fun h => of_decide_eq_false (a4 h)⟩
/-! one house -/
def go1 : Ent → Int → Int → Int
  | [], T, _ => T
  | e :: r, T, p => go1 r (T + gn (kd e.1) p e.2) (pr (kd e.1) p e.2)
theorem run_go1 : ∀ (es : Ent) (st : Int), (∀ e ∈ es, 0 ≤ e.2) → es.foldl (fun st e => cst .he st (prt .he e.1) e.2) st = st + lin es + go1 es 0 (st % 2) := by
  have sh : ∀ (es : Ent) (T p k : Int), go1 es (T + k) p = go1 es T p + k := by
    intro es
    induction es with
    | nil => intro T p k; rfl
    | cons e r ih =>
      intro T p k
      show go1 r (T + k + gn _ p e.2) _ = go1 r (T + gn _ p e.2) _ + k
      rw [← ih, show T + k + gn (kd e.1) p e.2 = T + gn (kd e.1) p e.2 + k by omega]
  intro es
  induction es with
  | nil => intro st _; simp [lin, go1]
  | cons e r ih =>
    intro st he
    obtain ⟨h1, h2⟩ := cf_he (st := st) (n := e.1) (he e (by simp))
    have := ih (cf .he st e.1 e.2) (fun q hq => he q (List.mem_cons_of_mem _ hq))
    rw [List.foldl_cons]
    show r.foldl _ (cf .he st e.1 e.2) = st + (e.2 * va e.1 + lin r) + go1 r (0 + gn (kd e.1) (st % 2) e.2) (pr (kd e.1) (st % 2) e.2)
    rw [this, h1, sh, ← h2, h1]
    omega
theorem best_one : ∀ (es : Ent) (T p : Int), (∀ e ∈ es, 0 ≤ e.2) → 0 ≤ p → p ≤ 1 → bestGo 1 (rn es) T p = go1 es T p
  | [], _, _, _, _, _ => rfl
  | e :: r, T, p, he, p0, p1 => by
    have hr : ∀ q ∈ r, 0 ≤ q.2 := fun q hq => he q (List.mem_cons_of_mem _ hq)
    rw [rn]
    have oh : ∀ (t q : Int) (av : Bool), 0 < t → 0 ≤ q → oddHF q t 1 av = (q + t) % 2 := by
      intro t q av ht hq
      unfold oddHF mn
      simp only []
      split <;> split <;> omega
    by_cases ht : 0 < e.2
    · rw [if_pos ht]
      show _ = go1 r (T + gn (kd e.1) p e.2) (pr (kd e.1) p e.2)
      cases k : kd e.1 with
      | none =>
        simp only [rnk, gn, pr, Int.add_zero]
        exact best_one r T p hr p0 p1
      | some k' =>
        cases k' with
        | tu =>
          have ih := best_one r T ((p + e.2) % 2) hr (by omega) (by omega)
          simp only [rnk, gn, pr, Int.add_zero]
          rw [← ih]
          have hp := rn_pos r
          generalize rn r = q at hp
          match q, hp with
          | [], _ =>
            show bestGo 1 [] T (oddHF p e.2 1 false) = _
            rfl
          | (.tu, t') :: q, hp =>
            have h' : 0 < t' := hp (.tu, t') (by simp)
            show bestGo 1 q T (oddHF p (e.2 + t') 1 _) = bestGo 1 q T (oddHF ((p + e.2) % 2) t' 1 _)
            rw [oh _ _ _ (by omega) p0, oh _ _ _ h' (by omega)]
            congr 1
            omega
          | (.od, t') :: q, _ =>
            show bestGo 1 ((.od, t') :: q) T (oddHF p e.2 1 true) = _
            rw [oh _ _ _ ht p0]
          | (.ev, t') :: q, _ =>
            show bestGo 1 ((.ev, t') :: q) T (oddHF p e.2 1 false) = _
            rw [oh _ _ _ ht p0]
        | ev =>
          simp only [rnk, gn, pr, if_pos ht]
          have h : mn p e.2 = p := by unfold mn; split <;> omega
          show bestGo 1 (rn r) (T + mn p e.2) (p - mn p e.2) = _
          rw [h, Int.sub_self]
          exact best_one r _ 0 hr (by omega) (by omega)
        | od =>
          simp only [rnk, gn, pr, if_pos ht]
          show (if (1 : Int) = 1 ∧ p = 1 then bestGo 1 (rn r) (T - 1) 0 else bestGo 1 (rn r) T p) = _
          split
          · rename_i h
            rw [h.2]
            exact best_one r _ 0 hr (by omega) (by omega)
          · have : p = 0 := by omega
            subst this
            rw [show T + -(0 : Int) = T by omega]
            exact best_one r T 0 hr (by omega) (by omega)
    · rw [if_neg ht, best_one r T p hr p0 p1]
      show _ = go1 r (T + gn (kd e.1) p e.2) (pr (kd e.1) p e.2)
      have e0 : e.2 = 0 := by have := he e (by simp); omega
      rw [e0]
      cases k : kd e.1 with
      | none => simp [gn, pr]
      | some k' =>
        cases k'
        · simp [gn, pr]
        · simp [gn, pr]
        · simp only [gn, pr, Int.add_zero]
          rw [show p % 2 = p by omega]
theorem run_best {es : Ent} (he : ∀ e ∈ es, 0 ≤ e.2) : bestF es 1 = runF .he es := by
  have sh : ∀ (es : Ent) (T p : Int), go1 es T p = T + go1 es 0 p := by
    intro es
    induction es with
    | nil => intro T p; show T = T + 0; omega
    | cons e r ih =>
      intro T p
      show go1 r (T + gn _ p e.2) _ = T + go1 r (0 + gn _ p e.2) _
      rw [ih, ih (0 + _)]
      omega
  have h := run_go1 es 0 he
  unfold runF
  rw [h]
  unfold bestF
  rw [runs_eq he]
  show bestGo 1 (rn es) (lin es) 0 = _
  rw [best_one es _ 0 he (by omega) (by omega), sh]
  show lin es + go1 es 0 0 = 0 + lin es + go1 es 0 0
  omega
/-! negation -/
theorem cf_neg {st n c : Int} (hc : 0 ≤ c) : cf .he (-st) (-n) c = -cf .he st n c := by
  have key : looseF .he (-n) = looseF .he n ∧ unitF .he (-n) = -unitF .he n - b2z (looseF .he n) := by
    have hw : ∀ m : Int, (m % 10 = 0 → wu m = m / 10 ∧ un m = 1) ∧ (m % 10 ≠ 0 → wu m = m ∧ un m = 10) := fun m => by
      unfold wu un
      constructor <;> intro h <;> simp [h]
    by_cases h : n % 10 = 0
    · obtain ⟨a1, a2⟩ := (hw n).1 h
      obtain ⟨b1, b2⟩ := (hw (-n)).1 (by omega)
      have l1 : looseF .he n = false := by unfold looseF; rw [a1, a2]; simp
      have l2 : looseF .he (-n) = false := by unfold looseF; rw [b1, b2]; simp
      refine ⟨by rw [l1, l2], ?_⟩
      unfold unitF
      rw [l1, l2, a1, a2, b1, b2]
      simp [divF, liftF, partF, b2z, Int.emod_one]
      omega
    · obtain ⟨a1, a2⟩ := (hw n).2 h
      obtain ⟨b1, b2⟩ := (hw (-n)).2 (by omega)
      by_cases h5 : n % 10 = 5
      · have l1 : looseF .he n = true := by unfold looseF; rw [a1, a2]; simp; omega
        have l2 : looseF .he (-n) = true := by unfold looseF; rw [b1, b2]; simp; omega
        refine ⟨by rw [l1, l2], ?_⟩
        unfold unitF
        rw [l1, l2, a1, a2, b1, b2]
        simp [b2z]
        omega
      · have l1 : looseF .he n = false := by unfold looseF; rw [a1, a2]; simp; omega
        have l2 : looseF .he (-n) = false := by unfold looseF; rw [b1, b2]; simp; omega
        refine ⟨by rw [l1, l2], ?_⟩
        have dv : ∀ m : Int, m % 10 ≠ 0 → m % 10 ≠ 5 → divF m 10 .he = m / 10 + b2z (decide (5 < m % 10)) := by
          intro m m0 m5
          unfold divF liftF partF
          rw [if_neg m0]
          by_cases c : 5 < m % 10
          · rw [show decide ((10 : Int) < 2 * (m % 10)) = true from decide_eq_true (by omega), show decide (2 * (m % 10) < (10 : Int)) = false from decide_eq_false (by omega), decide_eq_true c]
            rfl
          · rw [show decide ((10 : Int) < 2 * (m % 10)) = false from decide_eq_false (by omega), show decide (2 * (m % 10) < (10 : Int)) = true from decide_eq_true (by omega), decide_eq_false c]
            rfl
        unfold unitF
        rw [l1, l2, a1, a2, b1, b2]
        simp only [Bool.false_eq_true, if_false]
        rw [dv _ h h5, dv _ (by omega) (by omega)]
        unfold b2z
        simp only [decide_eq_true_eq, Bool.false_eq_true, if_false]
        split <;> split <;> omega
  have v : va (-n) = -va n := by
    unfold va
    rw [key.1, key.2]
    unfold b2z
    split <;> omega
  rw [(cf_he hc).1, (cf_he hc).1, v]
  have m : c * -va n = -(c * va n) := Int.mul_neg c (va n)
  have k : gn (kd (-n)) (-st % 2) c = -gn (kd n) (st % 2) c := by
    unfold kd
    rw [key.1, key.2]
    cases hl : looseF .he n
    · simp only [b2z, Bool.false_eq_true, if_false]
      split <;> split <;> simp [gn]
    · simp only [b2z, if_true]
      by_cases hu : unitF .he n % 2 = 1
      · rw [if_neg (by omega), if_pos hu]
        simp only [gn]
        split <;> omega
      · rw [if_pos (by omega), if_neg hu]
        simp only [gn]
        split <;> omega
  rw [m, k]
  omega
theorem neg_snd (es : Ent) : (negE es).map (·.2) = es.map (·.2) := by
  unfold negE
  rw [List.map_map]
  rfl
theorem neg_nn {es : Ent} (he : ∀ e ∈ es, 0 ≤ e.2) : ∀ e ∈ negE es, 0 ≤ e.2 := by
  intro e h
  unfold negE at h
  obtain ⟨q, hq, e⟩ := List.mem_map.mp h
  rw [← e]
  exact he q hq
theorem neg_top (es : Ent) : topP (negE es) = topP es := by
  unfold topP
  rw [neg_snd]
theorem hg_neg {g : Int → Int} (G : ∀ x y, x ≤ y → g x ≤ g y) : ∀ {es : Ent} {s st : Int}, (∀ e ∈ es, 0 ≤ e.2) → hg (cf .he) g s (negE es) (-st) = -hg (cf .he) g s es st
  | [], _, _, _ => rfl
  | e :: r, s, st, he => by
    have h0 := he e (by simp)
    have := G s (s + e.2) (by omega)
    show hg (cf .he) g (s + e.2) (negE r) (cf .he (-st) (-e.1) (g (s + e.2) - g s)) = -hg (cf .he) g (s + e.2) r (cf .he st e.1 (g (s + e.2) - g s))
    rw [cf_neg (by omega), hg_neg G fun q hq => he q (List.mem_cons_of_mem _ hq)]
theorem run_hg (w : Way) : ∀ (es : Ent) (s st : Int), es.foldl (fun st e => cst w st (prt w e.1) e.2) st = hg (cf w) (fun x => x) s es st
  | [], _, _ => rfl
  | e :: r, s, st => by
    rw [List.foldl_cons, run_hg w r (s + e.2)]
    show hg _ _ _ _ (cf w st e.1 e.2) = hg _ _ _ _ (cf w st e.1 (s + e.2 - s))
    rw [show s + e.2 - s = e.2 by omega]
theorem run_neg {es : Ent} (he : ∀ e ∈ es, 0 ≤ e.2) : runF .he (negE es) = -runF .he es := by
  unfold runF
  rw [run_hg .he _ 0, run_hg .he _ 0]
  exact hg_neg (st := 0) (fun _ _ h => h) he
/-- any way of giving lies between the ends -/
theorem giv_in {P : Int} (hP : 0 < P) {g : Int → Int → Int} (G : ∀ h, 0 ≤ h → h < P → ∀ x y, x ≤ y → g h x ≤ g h y) (S : ∀ x y, sI (fun h => g h y - g h x) 0 P.toNat = y - x)
    {es : Ent} (he : ∀ e ∈ es, 0 ≤ e.2) : givLo .he es P ≤ sI (fun h => hg (cf .he) (g h) 0 es 0) 0 P.toNat ∧ sI (fun h => hg (cf .he) (g h) 0 es 0) 0 P.toNat ≤ givHi .he es P := by
  refine ⟨?_, giv_le hP G S he⟩
  have h := giv_le hP G S (neg_nn he)
  have e : sI (fun h => hg (cf .he) (g h) 0 (negE es) 0) 0 P.toNat = -sI (fun h => hg (cf .he) (g h) 0 es 0) 0 P.toNat := by
    rw [← sI_neg]
    exact sI_congr fun h a b => hg_neg (st := 0) (G h a (by omega)) he
  rw [e] at h
  show -bestF (negE es) P ≤ _
  omega
/-! the ends of all orders -/
theorem end_go : ∀ (es : Ent) (s : Int × Int × Int × Int) (st T : Int), (∀ e ∈ es, 0 ≤ e.2) →
    st = s.1 + s.2.2.1 + T → T + st % 2 ≤ s.2.2.2 → T ≤ s.2.1 → -T + st % 2 ≤ s.2.2.2 → -T ≤ s.2.2.1 → 
    ∃ T', es.foldl (fun st e => cst .he st (prt .he e.1) e.2) st = (es.foldl endStep s).1 + (es.foldl endStep s).2.2.1 + T' ∧ T' ≤ (es.foldl endStep s).2.2.2 ∧ T' ≤ (es.foldl endStep s).2.1 ∧ -T' ≤ (es.foldl endStep s).2.2.2 ∧ -T' ≤ (es.foldl endStep s).2.2.1
  | [], s, st, T, _, h1, h2, h3, h4, h5 => by
    refine ⟨T, h1, ?_, h3, ?_, h5⟩
    · show T ≤ s.2.2.2
      omega
    · show -T ≤ s.2.2.2
      omega
  | e :: r, s, st, T, he, h1, h2, h3, h4, h5 => by
    have h0 := he e (by simp)
    obtain ⟨c1, c2⟩ := cf_he (st := st) (n := e.1) h0
    rw [List.foldl_cons, List.foldl_cons]
    show ∃ T', r.foldl _ (cf .he st e.1 e.2) = _ ∧ _
    have hr : ∀ q ∈ r, 0 ≤ q.2 := fun q hq => he q (List.mem_cons_of_mem _ hq)
    have E : endStep s e = (s.1 + e.2 * unitF .he e.1, if looseF .he e.1 = true ∧ unitF .he e.1 % 2 = 0 then s.2.1 + e.2 else s.2.1,
        if looseF .he e.1 = true ∧ unitF .he e.1 % 2 ≠ 0 then s.2.2.1 + e.2 else s.2.2.1, if looseF .he e.1 = true then s.2.2.2 else s.2.2.2 + e.2 * (unitF .he e.1 % 2)) := rfl
    have fin : ∀ s', endStep s e = s' → (st + e.2 * va e.1 + gn (kd e.1) (st % 2) e.2 = s'.1 + s'.2.2.1 + (T + gn (kd e.1) (st % 2) e.2)) → (T + gn (kd e.1) (st % 2) e.2) + pr (kd e.1) (st % 2) e.2 ≤ s'.2.2.2 →
        (T + gn (kd e.1) (st % 2) e.2) ≤ s'.2.1 → -(T + gn (kd e.1) (st % 2) e.2) + pr (kd e.1) (st % 2) e.2 ≤ s'.2.2.2 → -(T + gn (kd e.1) (st % 2) e.2) ≤ s'.2.2.1 →
        ∃ T', r.foldl (fun st e => cst .he st (prt .he e.1) e.2) (cf .he st e.1 e.2) = (r.foldl endStep (endStep s e)).1 + (r.foldl endStep (endStep s e)).2.2.1 + T' ∧ T' ≤ (r.foldl endStep (endStep s e)).2.2.2 ∧ T' ≤ (r.foldl endStep (endStep s e)).2.1 ∧ -T' ≤ (r.foldl endStep (endStep s e)).2.2.2 ∧ -T' ≤ (r.foldl endStep (endStep s e)).2.2.1 := by
      intro s' es' a1 a2 a3 a4 a5
      rw [es']
      exact end_go r s' _ _ hr (by rw [c1]; exact a1) (by rw [c2]; exact a2) a3 (by rw [c2]; exact a4) a5
    cases hl : looseF .he e.1
    · have v : va e.1 = unitF .he e.1 := by unfold va; rw [hl]; simp
      rw [hl] at E
      simp only [Bool.false_eq_true, false_and, if_false] at E
      by_cases hu : unitF .he e.1 % 2 = 1
      · have k : kd e.1 = some .tu := by unfold kd; rw [hl]; simp [hu]
        rw [hu, Int.mul_one] at E
        refine fin _ E ?_ ?_ ?_ ?_ ?_ <;> rw [k] <;> (try rw [v]) <;> simp only [gn, pr] <;> omega
      · have k : kd e.1 = none := by unfold kd; rw [hl]; simp [hu]
        rw [show unitF .he e.1 % 2 = 0 by omega, Int.mul_zero] at E
        refine fin _ E ?_ ?_ ?_ ?_ ?_ <;> rw [k] <;> (try rw [v]) <;> simp only [gn, pr] <;> omega
    · have v : va e.1 = unitF .he e.1 + unitF .he e.1 % 2 := by unfold va; rw [hl]; simp
      rw [hl] at E
      simp only [true_and, if_true] at E
      by_cases hu : unitF .he e.1 % 2 = 1
      · have k : kd e.1 = some .od := by unfold kd; rw [hl]; simp [hu]
        rw [if_neg (by omega), if_pos (by omega)] at E
        rw [hu] at v
        have m : e.2 * (unitF .he e.1 + 1) = e.2 * unitF .he e.1 + e.2 := by rw [Int.mul_add, Int.mul_one]
        refine fin _ E ?_ ?_ ?_ ?_ ?_ <;> rw [k] <;> (try rw [v]) <;> simp only [gn, pr] <;> (try split) <;> omega
      · have k : kd e.1 = some .ev := by unfold kd; rw [hl]; simp [hu]
        rw [if_pos (by omega), if_neg (by omega)] at E
        rw [show unitF .he e.1 % 2 = 0 by omega, Int.add_zero] at v
        refine fin _ E ?_ ?_ ?_ ?_ ?_ <;> rw [k] <;> (try rw [v]) <;> simp only [gn, pr] <;> (try split) <;> omega
theorem end_in {es : Ent} (he : ∀ e ∈ es, 0 ≤ e.2) : endLo es ≤ runF .he es ∧ runF .he es ≤ endHi es := by
  obtain ⟨T, h1, h2, h3, h4, h5⟩ := end_go es (0, 0, 0, 0) 0 0 he (by simp) (by simp) (by simp) (by simp) (by simp)
  unfold endLo endHi runF endF
  rw [h1]
  unfold mn
  constructor <;> split <;> omega
end KX
/-! The totals as the law asks them: the order's ends, the deal between the ends, one house, each alone. -/
namespace KX
open PySem PySem.Spec PyProof.Rows L2
/-- the entries that the law draws -/
structure Dr (w : Way) (es : Ent) : Prop where
  few : es.length ≤ 3
  nn : ∀ e ∈ es, 0 ≤ e.2
  ts : ∀ e ∈ es, e.2 ≤ 10 ^ 41
  sm : ∀ e ∈ es, -25 ≤ e.1 ∧ e.1 ≤ 25
  po : w = .cu ∨ w = .ha → ∀ e ∈ es, 0 ≤ e.1
theorem Dr.okw {w : Way} {es : Ent} (d : Dr w es) (h : w ≠ .he) : OkW w es := ⟨h, d.po⟩
theorem form_sub : ∀ {es : Ent}, ∀ e ∈ formF es, ∃ q ∈ es, q.1 = e.1 := by
  have step : ∀ (acc : Ent) (x : Int × Int), ∀ e ∈ formStep acc x, (∃ q ∈ acc, q.1 = e.1) ∨ x.1 = e.1 := by
    intro acc x e h
    unfold formStep at h
    split at h
    · split at h
      · split at h
        · rcases List.mem_or_eq_of_mem_set h with h | h
          · exact .inl ⟨e, h, rfl⟩
          · exact .inr (by rw [h])
        · rcases List.mem_append.mp h with h | h
          · exact .inl ⟨e, h, rfl⟩
          · exact .inr (by rw [List.mem_singleton.mp h])
      · rcases List.mem_append.mp h with h | h
        · exact .inl ⟨e, h, rfl⟩
        · exact .inr (by rw [List.mem_singleton.mp h])
    · exact .inl ⟨e, h, rfl⟩
  have go : ∀ (es acc : Ent), ∀ e ∈ es.foldl formStep acc, (∃ q ∈ acc, q.1 = e.1) ∨ ∃ q ∈ es, q.1 = e.1 := by
    intro es
    induction es with
    | nil => intro acc e h; exact .inl ⟨e, h, rfl⟩
    | cons x r ih =>
      intro acc e h
      rcases ih _ e h with ⟨q, hq, e1⟩ | ⟨q, hq, e1⟩
      · rcases step acc x q hq with ⟨z, hz, e2⟩ | e2
        · exact .inl ⟨z, hz, e2.trans e1⟩
        · exact .inr ⟨x, by simp, e2.trans e1⟩
      · exact .inr ⟨q, by simp [hq], e1⟩
  intro es e h
  rcases go es [] e h with ⟨q, hq, _⟩ | h
  · exact absurd hq (by simp)
  · exact h
theorem free_of {w : Way} {es : Ent} (hw : w ≠ .he) (po : w = .cu ∨ w = .ha → ∀ e ∈ es, 0 ≤ e.1) : freeF w es = true := by
  unfold freeF
  simp only []
  cases w with
  | he => exact absurd rfl hw
  | fl => simp [looseF]
  | hu => simp [looseF]
  | cu =>
    rw [Bool.or_eq_true]
    refine .inr ?_
    have : ((es.filter fun e => decide (0 < e.2)).map (·.1)).all (fun n => decide (0 ≤ sgn n)) = true := by
      rw [List.all_eq_true]
      intro n hn
      obtain ⟨e, he, rfl⟩ := List.mem_map.mp hn
      have := po (.inl rfl) e (List.mem_filter.mp he).1
      refine decide_eq_true ?_
      unfold sgn b2z
      simp only [decide_eq_true_eq]
      split <;> split <;> omega
    rw [this]
    simp
  | ha =>
    rw [Bool.or_eq_true]
    refine .inr ?_
    have : ((es.filter fun e => decide (0 < e.2)).map (·.1)).all (fun n => decide (0 ≤ sgn n)) = true := by
      rw [List.all_eq_true]
      intro n hn
      obtain ⟨e, he, rfl⟩ := List.mem_map.mp hn
      have := po (.inr rfl) e (List.mem_filter.mp he).1
      refine decide_eq_true ?_
      unfold sgn b2z
      simp only [decide_eq_true_eq]
      split <;> split <;> omega
    rw [this]
    simp
theorem Dr.told {w : Way} {es : Ent} (d : Dr w es) : Told w es := by
  by_cases h : w = .he
  · exact .inl h
  · exact .inr (free_of h d.po)
theorem Dr.told2 {w : Way} {es : Ent} (d : Dr w es) : Told w (formF es) := by
  by_cases h : w = .he
  · exact .inl h
  · exact .inr (free_of h fun c e he => by
      obtain ⟨q, hq, e1⟩ := form_sub e he
      rw [← e1]
      exact d.po c q hq)
theorem tot_le {w : Way} {es : Ent} (d : Dr w es) : 0 ≤ sT es ∧ sT es ≤ 3 * 10 ^ 41 := by
  refine ⟨sT_nn d.nn, ?_⟩
  have h : ∀ (es : Ent), (∀ e ∈ es, e.2 ≤ 10 ^ 41) → sT es ≤ es.length * 10 ^ 41 := by
    intro es
    induction es with
    | nil => intro _; simp [sT]
    | cons e r ih =>
      intro h
      have := ih fun q hq => h q (List.mem_cons_of_mem _ hq)
      have := h e (by simp)
      rw [sT_cons, List.length_cons]
      omega
  have h1 := h es d.ts
  have := d.few
  omega
theorem Dr.ok {w : Way} {es : Ent} (d : Dr w es) : OkE es := by
  refine ⟨d.few, d.nn, fun e he => ?_, ?_⟩
  · have := d.sm e he
    omega
  · have := (tot_le d).2
    have e : (es.map (·.2)).sum = sT es := rfl
    rw [e]
    omega
/-! w other than half to even: one total -/
def sgl (w : Way) : Ent → Int
  | [] => 0
  | e :: r => e.2 * sg w e.1 + sgl w r
theorem sing_go (w : Way) : ∀ (es : Ent) (s : Int), es.foldl (fun s e => s + e.2 * divF (wu e.1) (un e.1) w) s = s + sgl w es
  | [], s => by simp [sgl]
  | e :: r, s => by
    rw [List.foldl_cons, sing_go w r]
    show s + e.2 * sg w e.1 + sgl w r = s + (e.2 * sg w e.1 + sgl w r)
    omega
theorem sing_eq (w : Way) (es : Ent) : singF w es = sgl w es := by
  unfold singF
  rw [sing_go]
  omega
theorem run_lf {w : Way} : ∀ (es : Ent) (s st : Int), hg (lf w) (fun x => x) s es st = st + sgl w es
  | [], s, st => by simp [hg, sgl]
  | e :: r, s, st => by
    show hg (lf w) _ (s + e.2) r (lf w st e.1 (s + e.2 - s)) = st + (e.2 * sg w e.1 + sgl w r)
    rw [run_lf r]
    unfold lf
    rw [show s + e.2 - s = e.2 by omega]
    omega
theorem deal_lf {w : Way} {P : Int} {g : Int → Int → Int} (S : ∀ x y, sI (fun h => g h y - g h x) 0 P.toNat = y - x) : ∀ (es : Ent) (s : Int) (st : Int → Int),
    sI (fun h => hg (lf w) (g h) s es (st h)) 0 P.toNat = sI st 0 P.toNat + sgl w es
  | [], s, st => by simp [hg, sgl]
  | e :: r, s, st => by
    have := deal_lf (w := w) S r (s + e.2) (fun h => st h + (g h (s + e.2) - g h s) * sg w e.1)
    show sI (fun h => hg (lf w) (g h) (s + e.2) r (st h + (g h (s + e.2) - g h s) * sg w e.1)) 0 P.toNat = _ + (e.2 * sg w e.1 + sgl w r)
    rw [this, sI_lin (F := st), sI_mul, S, show s + e.2 - s = e.2 by omega]
    omega
theorem z_sum (n : Nat) : sI (fun _ => (0 : Int)) 0 n = 0 := by rw [sI_const (c := 0) (fun _ _ _ => rfl)]; simp
theorem dtot_dH (w : Way) (es : Ent) {b P a : Int} (hb : 0 < b) (hP : 0 < P) : dtotF w es b P a = dH (cf w) (formF es) b P a := deal_dH w _ hb hP
theorem dtot_he {es : Ent} (he : ∀ e ∈ es, 0 ≤ e.2) {b P a : Int} (hb : 0 < b) (hP : 0 < P) : dtotF .he es b P a = dH (cf .he) es b P a := by
  rw [dtot_dH .he es hb hP]
  exact sI_congr fun h h0 h1 => form_hg good_he (fun x y q => gH_mono hb hP h0 (by omega) q) he 0 0
theorem OkW.form {w : Way} {es : Ent} (k : OkW w es) : OkW w (formF es) := ⟨k.1, fun c e he => by
  obtain ⟨q, hq, e1⟩ := form_sub e he
  rw [← e1]
  exact k.2 c q hq⟩
theorem dtot_lf {w : Way} {es : Ent} (he : ∀ e ∈ es, 0 ≤ e.2) (k : OkW w es) {b P a : Int} (hb : 0 < b) (hP : 0 < P) : dtotF w es b P a = sgl w es := by
  rw [dtot_dH w es hb hP]
  have e : dH (cf w) (formF es) b P a = sI (fun h => hg (lf w) (gH b P a h) 0 es 0) 0 P.toNat := by
    refine sI_congr fun h h0 h1 => ?_
    have G : ∀ x y, x ≤ y → gH b P a h x ≤ gH b P a h y := fun x y q => gH_mono hb hP h0 (by omega) q
    rw [hg_lf G k.form (fun _ => Int.le_refl 0) (form_nn he)]
    exact form_hg (good_lf w) G he 0 0
  rw [e, deal_lf (fun x y => gH_dsum hb hP) es 0 (fun _ => 0), z_sum]
  omega
theorem run_lf2 {w : Way} {es : Ent} (he : ∀ e ∈ es, 0 ≤ e.2) (k : OkW w es) : runF w es = sgl w es := by
  unfold runF
  rw [run_hg w es 0 0, hg_lf (fun _ _ h => h) k (fun _ => Int.le_refl 0) he, run_lf]
  omega
theorem top_pt : ∀ w : Way, w = .cu ∨ w = .ha → ∀ k : Nat, k ≤ 25 → (unitF w k + (if sgn k = ahead w then b2z (looseF w k) else 0) = sg w k) ∧
    (unitF w (-(k : Int)) + (if sgn (-(k : Int)) = ahead w then b2z (looseF w (-(k : Int))) else 0) = -sg w k) := by
  intro w hw
  have h : ∀ w : Way, w = .cu ∨ w = .ha → ∀ k : Fin 26, (unitF w k.val + (if sgn k.val = ahead w then b2z (looseF w k.val) else 0) = sg w k.val) ∧
    (unitF w (-(k.val : Int)) + (if sgn (-(k.val : Int)) = ahead w then b2z (looseF w (-(k.val : Int))) else 0) = -sg w k.val) := by
    intro w hw
    rcases hw with h | h <;> subst h <;> decide
  intro k hk
  exact h w hw ⟨k, by omega⟩
theorem top_go {w : Way} (hw : w = .cu ∨ w = .ha) : ∀ (es : Ent), (∀ e ∈ es, 0 ≤ e.1 ∧ e.1 ≤ 25) → ∀ s : Int,
    es.foldl (fun s e => s + e.2 * unitF w e.1 + (if sgn e.1 = ahead w then e.2 * b2z (looseF w e.1) else 0)) s = s + sgl w es ∧
    (negE es).foldl (fun s e => s + e.2 * unitF w e.1 + (if sgn e.1 = ahead w then e.2 * b2z (looseF w e.1) else 0)) s = s - sgl w es
  | [], _, s => by simp [sgl, negE]
  | e :: r, h, s => by
    have h0 := h e (by simp)
    obtain ⟨k, hk⟩ := Int.eq_ofNat_of_zero_le h0.1
    obtain ⟨p1, p2⟩ := top_pt w hw k (by omega)
    rw [← show e.1 = (k : Int) from hk] at p1 p2
    have ih := top_go hw r (fun q hq => h q (List.mem_cons_of_mem _ hq))
    have m : ∀ (c : Prop) [Decidable c] (t u v : Int), t * u + (if c then t * v else 0) = t * (u + if c then v else 0) := by
      intro c _ t u v
      split
      · rw [Int.mul_add]
      · simp
    constructor
    · rw [List.foldl_cons, (ih _).1, Int.add_assoc s, m, p1]
      show _ = s + (e.2 * sg w e.1 + sgl w r)
      omega
    · show (negE r).foldl _ (s + e.2 * unitF w (-e.1) + (if sgn (-e.1) = ahead w then e.2 * b2z (looseF w (-e.1)) else 0)) = s - (e.2 * sg w e.1 + sgl w r)
      rw [(ih _).2, Int.add_assoc s, m, p2]
      have : e.2 * -sg w e.1 = -(e.2 * sg w e.1) := Int.mul_neg _ _
      omega
theorem ord_lf {w : Way} {es : Ent} (d : Dr w es) (hw : w ≠ .he) : ordLo w es = sgl w es ∧ ordHi w es = sgl w es := by
  have pt : w = .cu ∨ w = .ha → ∀ e ∈ es, 0 ≤ e.1 ∧ e.1 ≤ 25 := fun c e he => ⟨d.po c e he, (d.sm e he).2⟩
  have r := run_lf2 d.nn (d.okw hw)
  cases w with
  | he => exact absurd rfl hw
  | fl => exact ⟨r, r⟩
  | hu => exact ⟨r, r⟩
  | cu =>
    have h := top_go (.inl rfl) es (pt (.inl rfl)) 0
    unfold ordLo ordHi topF
    simp only []
    rw [h.1, h.2]
    omega
  | ha =>
    have h := top_go (.inr rfl) es (pt (.inr rfl)) 0
    unfold ordLo ordHi topF
    simp only []
    rw [h.1, h.2]
    omega
/-! the chain -/
theorem chain_ord {w : Way} {es : Ent} (d : Dr w es) : ordLo w es ≤ runF w es ∧ runF w es ≤ ordHi w es := by
  by_cases h : w = .he
  · subst h
    exact end_in d.nn
  · obtain ⟨a, b⟩ := ord_lf d h
    rw [a, b, run_lf2 d.nn (d.okw h)]
    omega
theorem giv_lf {w : Way} {es : Ent} (d : Dr w es) (h : w ≠ .he) (P : Int) : givLo w es P = sgl w es ∧ givHi w es P = sgl w es := by
  have r := run_lf2 d.nn (d.okw h)
  cases w with
  | he => exact absurd rfl h
  | fl => exact ⟨r, r⟩
  | hu => exact ⟨r, r⟩
  | cu => exact ⟨r, r⟩
  | ha => exact ⟨r, r⟩
theorem chain_deal {w : Way} {es : Ent} (d : Dr w es) {b P a : Int} (hb : 0 < b) (hP : 0 < P) : givLo w es P ≤ dtotF w es b P a ∧ dtotF w es b P a ≤ givHi w es P := by
  by_cases h : w = .he
  · subst h
    rw [dtot_he d.nn hb hP]
    unfold dH
    exact giv_in (g := gH b P a) hP (fun h h0 h1 x y q => gH_mono hb hP h0 h1 q) (fun x y => gH_dsum hb hP) d.nn
  · obtain ⟨e1, e2⟩ := giv_lf d h P
    rw [e1, e2, dtot_lf d.nn (d.okw h) hb hP]
    omega
theorem chain_P {w : Way} {es : Ent} (d : Dr w es) {P Q : Int} (hP : 0 < P) (hQ : P ≤ Q) : givLo w es Q ≤ givLo w es P ∧ givHi w es P ≤ givHi w es Q := by
  by_cases h : w = .he
  · subst h
    have a := best_mono d.nn hP hQ
    have b := best_mono (neg_nn d.nn) hP hQ
    show -bestF (negE es) Q ≤ -bestF (negE es) P ∧ bestF es P ≤ bestF es Q
    omega
  · obtain ⟨e1, e2⟩ := giv_lf d h P
    obtain ⟨e3, e4⟩ := giv_lf d h Q
    omega
theorem giv_one {w : Way} {es : Ent} (d : Dr w es) : givLo w es 1 = runF w es ∧ givHi w es 1 = runF w es := by
  by_cases h : w = .he
  · subst h
    have a := run_best d.nn
    have b := run_best (neg_nn d.nn)
    have c := run_neg d.nn
    show -bestF (negE es) 1 = _ ∧ bestF es 1 = _
    omega
  · obtain ⟨e1, e2⟩ := giv_lf d h 1
    rw [e1, e2, run_lf2 d.nn (d.okw h)]
    exact ⟨rfl, rfl⟩
theorem giv_le2 {w : Way} {es : Ent} (d : Dr w es) {P : Int} (hP : 0 < P) : givLo w es P ≤ givHi w es P := by
  have h := chain_deal d (b := 1) (a := 0) (by omega) hP
  omega
theorem deal_one {w : Way} {es : Ent} (d : Dr w es) {a : Int} : dtotF w es 1 1 a = runF w es := by
  have h := chain_deal d (b := 1) (P := 1) (a := a) (by omega) (by omega)
  obtain ⟨e1, e2⟩ := giv_one d
  omega
/-! each alone -/
theorem alone_pt {n : Int} : sg .he n = va n := by
  unfold va unitF sg
  cases hl : looseF .he n
  · simp
  · simp only [if_true]
    have q : 2 * (wu n % un n) = un n := by simpa [looseF] using hl
    have u0 := un_gt n
    have p : partF (wu n % un n) (un n) = 2 := by
      unfold partF b2z
      rw [if_neg (by omega), show decide (un n < 2 * (wu n % un n)) = false from decide_eq_false (by omega), show decide (2 * (wu n % un n) < un n) = false from decide_eq_false (by omega)]
      rfl
    unfold divF
    rw [p]
    have l : liftF .he 2 (decide (wu n < 0)) (decide (wu n / un n % 2 = 1)) = wu n / un n % 2 := by
      unfold liftF b2z
      rw [if_neg (by decide)]
      simp only [if_true, decide_eq_true_eq]
      split <;> omega
    rw [l]
theorem sgl_lin : ∀ es : Ent, sgl .he es = lin es
  | [] => rfl
  | e :: r => by
    show e.2 * sg .he e.1 + sgl .he r = e.2 * va e.1 + lin r
    rw [alone_pt, sgl_lin r]
/-- one cell at most: no house adds more than each alone -/
theorem hg_alone {g : Int → Int} (G : ∀ x y, x ≤ y → g x ≤ g y) : ∀ {es : Ent} {s : Int}, (∀ e ∈ es, 0 ≤ e.2) → (g (s + sT es) ≤ g s + 1) → hg (cf .he) g s es 0 = hg (lf .he) g s es 0
  | [], _, _, _ => rfl
  | e :: r, s, he, h => by
    have h0 := he e (by simp)
    have hr : ∀ q ∈ r, 0 ≤ q.2 := fun q hq => he q (List.mem_cons_of_mem _ hq)
    have r0 := sT_nn hr
    rw [sT_cons] at h
    have m1 := G s (s + e.2) (by omega)
    have m2 := G (s + e.2) (s + (e.2 + sT r)) (by omega)
    show hg (cf .he) g (s + e.2) r (cf .he 0 e.1 (g (s + e.2) - g s)) = hg (lf .he) g (s + e.2) r (lf .he 0 e.1 (g (s + e.2) - g s))
    have c1 : cf .he 0 e.1 (g (s + e.2) - g s) = lf .he 0 e.1 (g (s + e.2) - g s) := by
      rw [(cf_he (by omega)).1]
      unfold lf
      rw [alone_pt]
      have : gn (kd e.1) (0 % 2) (g (s + e.2) - g s) = 0 := by
        unfold gn
        split <;> simp
      omega
    by_cases c : g (s + e.2) - g s = 0
    · rw [c1, c]
      have : lf .he 0 e.1 0 = 0 := by simp [lf]
      rw [this]
      exact hg_alone G hr (by rw [show s + e.2 + sT r = s + (e.2 + sT r) by omega]; omega)
    · rw [c1]
      have flat : ∀ (r : Ent) (s st : Int) (f : Int → Int → Int → Int), Good f → (∀ e ∈ r, 0 ≤ e.2) → g (s + sT r) ≤ g s → hg f g s r st = st := by
        intro r
        induction r with
        | nil => intro s st f _ _ _; rfl
        | cons q r ih =>
          intro s st f F hr h
          rw [sT_cons] at h
          have q0 := hr q (by simp)
          have hr' : ∀ q ∈ r, 0 ≤ q.2 := fun q hq => hr q (List.mem_cons_of_mem _ hq)
          have r0 := sT_nn hr'
          have m1 := G s (s + q.2) (by omega)
          have m2 := G (s + q.2) (s + (q.2 + sT r)) (by omega)
          show hg f g (s + q.2) r (f st q.1 (g (s + q.2) - g s)) = st
          rw [show g (s + q.2) - g s = 0 by omega, F.z]
          exact ih _ _ f F hr' (by rw [show s + q.2 + sT r = s + (q.2 + sT r) by omega]; omega)
      rw [flat r _ _ _ good_he hr (by rw [show s + e.2 + sT r = s + (e.2 + sT r) by omega]; omega), flat r _ _ _ (good_lf .he) hr (by rw [show s + e.2 + sT r = s + (e.2 + sT r) by omega]; omega)]
theorem deal_alone {w : Way} {es : Ent} (d : Dr w es) : dtotF w es 1 (sT es + 1) 0 = singF w es := by
  have t0 := sT_nn d.nn
  rw [sing_eq]
  by_cases h : w = .he
  · subst h
    rw [dtot_he d.nn (by omega) (by omega)]
    have e : dH (cf .he) es 1 (sT es + 1) 0 = sI (fun h => hg (lf .he) (gH 1 (sT es + 1) 0 h) 0 es 0) 0 (sT es + 1).toNat := by
      refine sI_congr fun h h0 h1 => ?_
      have G : ∀ x y, x ≤ y → gH 1 (sT es + 1) 0 h x ≤ gH 1 (sT es + 1) 0 h y := fun x y q => gH_mono (by omega) (by omega) h0 (by omega) q
      refine hg_alone G d.nn ?_
      rw [gH_eq (by omega) (by omega) h0 (by omega), gH_eq (by omega) (by omega) h0 (by omega)]
      unfold gF
      rw [Int.ediv_one, Int.emod_one, Int.ediv_one, Int.emod_one, show (0 : Int) + sT es + 0 = sT es by omega, Int.ediv_eq_zero_of_lt t0 (by omega), Int.emod_eq_of_lt t0 (by omega)]
      rw [show (0 : Int) + 0 = 0 by omega, Int.zero_ediv, Int.zero_emod]
      split <;> split <;> (try split) <;> (try split) <;> omega
    rw [e, deal_lf (fun x y => gH_dsum (by omega) (by omega)) es 0 (fun _ => 0), z_sum]
    omega
  · exact dtot_lf d.nn (d.okw h) (by omega) (by omega)
/-! free: all one -/
theorem free_he {es : Ent} (he : ∀ e ∈ es, 0 ≤ e.2) (h : freeF .he es = true) : ∀ e ∈ es, 0 < e.2 → looseF .he e.1 = false := by
  intro e hm ht
  unfold freeF at h
  simp only [reduceCtorEq, false_or, decide_false, Bool.false_and, Bool.or_false] at h
  rw [Bool.not_eq_true', List.any_eq_false] at h
  have := h e.1 (List.mem_map.mpr ⟨e, List.mem_filter.mpr ⟨hm, decide_eq_true ht⟩, rfl⟩)
  simpa using this
theorem free_rn : ∀ {es : Ent}, (∀ e ∈ es, 0 ≤ e.2) → (∀ e ∈ es, 0 < e.2 → looseF .he e.1 = false) → ∀ x ∈ rn es, x.1 = .tu
  | [], _, _, x, hx => absurd hx (by simp [rn])
  | e :: r, he, hl, x, hx => by
    have ih := free_rn (es := r) (fun q hq => he q (List.mem_cons_of_mem _ hq)) (fun q hq => hl q (List.mem_cons_of_mem _ hq))
    rw [rn] at hx
    split at hx
    · rename_i ht
      have l := hl e (by simp) ht
      unfold kd at hx
      rw [l] at hx
      simp only [Bool.false_eq_true, if_false] at hx
      split at hx
      · simp only [rnk] at hx
        generalize rn r = q at hx ih
        match q, hx, ih with
        | [], hx, _ => rw [List.mem_singleton.mp hx]
        | (.tu, t') :: q, hx, ih =>
          rcases List.mem_cons.mp hx with e | e
          · rw [e]
          · exact ih x (List.mem_cons_of_mem _ e)
        | (.od, t') :: q, hx, ih => exact absurd (ih (.od, t') (by simp)) (by simp)
        | (.ev, t') :: q, hx, ih => exact absurd (ih (.ev, t') (by simp)) (by simp)
      · exact ih x hx
    · exact ih x hx
theorem free_best (P : Int) : ∀ (rs : List (Kd × Int)) (T N : Int), (∀ x ∈ rs, x.1 = .tu) → bestGo P rs T N = T
  | [], _, _, _ => rfl
  | (.tu, t) :: r, T, N, h => free_best P r T _ (fun x hx => h x (List.mem_cons_of_mem _ hx))
  | (.od, t) :: r, T, N, h => absurd (h (.od, t) (by simp)) (by simp)
  | (.ev, t) :: r, T, N, h => absurd (h (.ev, t) (by simp)) (by simp)
theorem free_all {w : Way} {es : Ent} (d : Dr w es) (h : freeF w es = true) {P : Int} (hP : 0 < P) : givLo w es P = runF w es ∧ givHi w es P = runF w es ∧ singF w es = runF w es := by
  by_cases c : w = .he
  · subst c
    have f := free_he d.nn h
    have f2 := free_rn d.nn f
    have k : ∀ es : Ent, (∀ e ∈ es, 0 ≤ e.2) → (∀ x ∈ rn es, x.1 = .tu) → ∀ P, bestF es P = lin es := fun es he hx P => by
      unfold bestF
      rw [runs_eq he]
      exact free_best P _ _ _ hx
    have g2 : ∀ e ∈ negE es, 0 < e.2 → looseF .he e.1 = false := by
      intro e he ht
      obtain ⟨q, hq, rfl⟩ := List.mem_map.mp he
      have h1 := f q hq ht
      show looseF .he (-q.1) = false
      unfold looseF wu un at h1 ⊢
      simp only [decide_eq_false_iff_not] at h1 ⊢
      split <;> split at h1 <;> omega
    have b1 := k es d.nn f2
    have b2 := k (negE es) (neg_nn d.nn) (free_rn (neg_nn d.nn) g2)
    have o := giv_one d
    have o1 : -bestF (negE es) 1 = runF .he es := o.1
    have o2 : bestF es 1 = runF .he es := o.2
    show -bestF (negE es) P = _ ∧ bestF es P = _ ∧ _
    rw [sing_eq, sgl_lin]
    rw [b1] at o2
    rw [b2] at o1
    rw [b1, b2]
    exact ⟨o1, o2, o2⟩
  · obtain ⟨e1, e2⟩ := giv_lf d c P
    rw [e1, e2, sing_eq, run_lf2 d.nn (d.okw c)]
    exact ⟨rfl, rfl, rfl⟩
/-! rising -/
theorem sgn_le {a b : Int} (h : a ≤ b) : decide (sgn (a - b) < 1) = true := by
  refine decide_eq_true ?_
  unfold sgn b2z
  simp only [decide_eq_true_eq]
  split <;> split <;> omega
theorem ris2 {a b : Int} (h : a ≤ b) : risF [a, b] = true := by
  simp [risF, List.range_succ, sgn_le h] <;> exact of_decide_eq_true (sgn_le h)
theorem ris3 {a b c : Int} (h1 : a ≤ b) (h2 : b ≤ c) : risF [a, b, c] = true := by
  have := of_decide_eq_true (sgn_le h1)
  have := of_decide_eq_true (sgn_le h2)
  simp [risF, List.range_succ, *]
theorem ris4 {a b c d : Int} (h1 : a ≤ b) (h2 : b ≤ c) (h3 : c ≤ d) : risF [a, b, c, d] = true := by
  have := of_decide_eq_true (sgn_le h1)
  have := of_decide_eq_true (sgn_le h2)
  have := of_decide_eq_true (sgn_le h3)
  simp [risF, List.range_succ, *]
theorem ris5 {a b c d e : Int} (h1 : a ≤ b) (h2 : b ≤ c) (h3 : c ≤ d) (h4 : d ≤ e) : risF [a, b, c, d, e] = true := by
  have := of_decide_eq_true (sgn_le h1)
  have := of_decide_eq_true (sgn_le h2)
  have := of_decide_eq_true (sgn_le h3)
  have := of_decide_eq_true (sgn_le h4)
  simp [risF, List.range_succ, *]
end KX
/-! Within a piece every second shift has one total. -/
namespace KX
open PySem PySem.Spec PyProof.Rows L2
/-- as many up to two more or two less, and neither none -/
theorem hg_same {g g' : Int → Int} : ∀ {rs : Ent} {s st st' u u' : Int}, (∀ e ∈ rs, 0 ≤ e.2) →
    (∀ x ∈ pre s (rs.map (·.2)), ∀ y ∈ pre s (rs.map (·.2)), x ≤ y → 0 ≤ g y - g x ∧ 0 ≤ g' y - g' x ∧ (g y - g x - (g' y - g' x)) % 2 = 0 ∧ (0 < g y - g x ↔ 0 < g' y - g' x)) →
    st - u = st' - u' → st % 2 = st' % 2 → hg (cf .he) g s rs st - hg (lf .he) g s rs u = hg (cf .he) g' s rs st' - hg (lf .he) g' s rs u'
  | [], _, _, _, _, _, _, _, h, _ => h
  | e :: r, s, st, st', u, u', he, C, h, p => by
    have h0 := he e (by simp)
    have hr : ∀ q ∈ r, 0 ≤ q.2 := fun q hq => he q (List.mem_cons_of_mem _ hq)
    have head : ∀ (s : Int) (r : Ent), s ∈ pre s (r.map (·.2)) := fun s r => by
      cases r <;> simp [pre]
    have c := C s (head s (e :: r)) (s + e.2) (by
      show _ ∈ s :: pre (s + e.2) (r.map (·.2))
      exact List.mem_cons_of_mem _ (head _ r)) (by omega)
    obtain ⟨c0, c1, c2, c3⟩ := c
    show hg (cf .he) g (s + e.2) r (cf .he st e.1 (g (s + e.2) - g s)) - hg (lf .he) g (s + e.2) r (lf .he u e.1 (g (s + e.2) - g s)) = hg (cf .he) g' (s + e.2) r (cf .he st' e.1 (g' (s + e.2) - g' s)) - hg (lf .he) g' (s + e.2) r (lf .he u' e.1 (g' (s + e.2) - g' s))
    obtain ⟨d1, d2⟩ := cf_he (st := st) (n := e.1) c0
    obtain ⟨d3, d4⟩ := cf_he (st := st') (n := e.1) c1
    have G : gn (kd e.1) (st % 2) (g (s + e.2) - g s) = gn (kd e.1) (st' % 2) (g' (s + e.2) - g' s) := by
      rw [p]
      cases kd e.1 with
      | none => rfl
      | some k =>
        cases k <;> simp only [gn]
        · split <;> split <;> omega
        · split <;> split <;> omega
    have R : pr (kd e.1) (st % 2) (g (s + e.2) - g s) = pr (kd e.1) (st' % 2) (g' (s + e.2) - g' s) := by
      rw [p]
      cases kd e.1 with
      | none => rfl
      | some k =>
        cases k <;> simp only [pr]
        · split <;> split <;> omega
        · split <;> split <;> omega
        · omega
    refine hg_same hr (fun x hx y hy => C x (List.mem_cons_of_mem _ hx) y (List.mem_cons_of_mem _ hy)) ?_ (by rw [d2, d4, R])
    rw [d1, d3, G]
    unfold lf
    rw [alone_pt]
    omega
/-- two shifts on, with no border passing: each house as the law of hg_same asks -/
theorem gF_two {b P X Y h : Int} (hb : 0 < b) (hP : 0 < P) (q : X ≤ Y) (x1 : 1 ≤ X % b) (y1 : 1 ≤ Y % b) (x2 : (X + 2) / b = X / b) (y2 : (Y + 2) / b = Y / b) :
    (gF b P Y h - gF b P X h - (gF b P (Y + 2) h - gF b P (X + 2) h)) % 2 = 0 ∧ (0 < gF b P Y h - gF b P X h ↔ 0 < gF b P (Y + 2) h - gF b P (X + 2) h) := by
  have m : ∀ Z : Int, (Z + 2) / b = Z / b → (Z + 2) % b = Z % b + 2 := fun Z e => by
    have h1 := Int.emod_add_mul_ediv Z b
    have h2 := Int.emod_add_mul_ediv (Z + 2) b
    rw [e] at h2
    omega
  have hx := Int.emod_lt_of_pos (X + 2) hb
  have hy := Int.emod_lt_of_pos (Y + 2) hb
  unfold gF
  rw [m X x2, m Y y2, x2, y2]
  rw [m X x2] at hx
  rw [m Y y2] at hy
  have q1 : X / b ≤ Y / b := Int.ediv_le_ediv hb q
  have q2 : X / b / P ≤ Y / b / P := Int.ediv_le_ediv hP q1
  have r1 := Int.emod_add_mul_ediv (X / b) P
  have r2 := Int.emod_add_mul_ediv (Y / b) P
  rcases Int.lt_or_eq_of_le q2 with c | c
  · have l := Int.mul_le_mul_of_nonneg_left (show X / b / P + 1 ≤ Y / b / P by omega) (Int.le_of_lt hb)
    rw [Int.mul_add] at l
    by_cases a1 : h < Y / b % P
    · rw [if_pos a1, if_pos a1]
      by_cases a2 : h < X / b % P
      · rw [if_pos a2, if_pos a2]
        omega
      · rw [if_neg a2, if_neg a2]
        by_cases a3 : h = X / b % P
        · rw [if_pos a3, if_pos a3]
          omega
        · rw [if_neg a3, if_neg a3]
          omega
    · rw [if_neg a1, if_neg a1]
      by_cases a4 : h = Y / b % P
      · rw [if_pos a4, if_pos a4]
        by_cases a2 : h < X / b % P
        · rw [if_pos a2, if_pos a2]
          omega
        · rw [if_neg a2, if_neg a2]
          by_cases a3 : h = X / b % P
          · rw [if_pos a3, if_pos a3]
            omega
          · rw [if_neg a3, if_neg a3]
            omega
      · rw [if_neg a4, if_neg a4]
        by_cases a2 : h < X / b % P
        · rw [if_pos a2, if_pos a2]
          omega
        · rw [if_neg a2, if_neg a2]
          by_cases a3 : h = X / b % P
          · rw [if_pos a3, if_pos a3]
            omega
          · rw [if_neg a3, if_neg a3]
            omega
  · have c2 : P * (X / b / P) = P * (Y / b / P) := by rw [c]
    have q3 : X / b % P ≤ Y / b % P := by omega
    rw [c]
    by_cases a1 : h < Y / b % P
    · rw [if_pos a1, if_pos a1]
      by_cases a2 : h < X / b % P
      · rw [if_pos a2, if_pos a2]
        omega
      · rw [if_neg a2, if_neg a2]
        by_cases a3 : h = X / b % P
        · rw [if_pos a3, if_pos a3]
          omega
        · rw [if_neg a3, if_neg a3]
          omega
    · rw [if_neg a1, if_neg a1]
      by_cases a4 : h = Y / b % P
      · rw [if_pos a4, if_pos a4]
        rw [if_neg (show ¬ h < X / b % P by omega)]
        by_cases a3 : h = X / b % P
        · rw [if_pos a3, if_pos a3]
          omega
        · rw [if_neg a3]
          omega
      · rw [if_neg a4, if_neg a4]
        rw [if_neg (show ¬ h < X / b % P by omega), if_neg (show ¬ h = X / b % P by omega)]
        omega
theorem dtot_two {w : Way} {es : Ent} (d : Dr w es) {b P s : Int} (hb : 0 < b) (hP : 0 < P) (C : ∀ x ∈ bordE (formF es), 1 ≤ (x + s) % b ∧ (x + s + 2) / b = (x + s) / b) :
    dtotF w es b P (s + 2) = dtotF w es b P s := by
  by_cases h : w = .he
  · subst h
    rw [dtot_dH .he es hb hP, dtot_dH .he es hb hP]
    have fn := form_nn d.nn
    have e1 : ∀ a, dH (cf .he) (formF es) b P a = sI (fun h => hg (cf .he) (gH b P a h) 0 (formF es) 0 - hg (lf .he) (gH b P a h) 0 (formF es) 0) 0 P.toNat + sgl .he (formF es) := by
      intro a
      have q := deal_lf (w := .he) (g := gH b P a) (P := P) (fun x y => gH_dsum hb hP) (formF es) 0 (fun _ => 0)
      rw [z_sum] at q
      have : dH (cf .he) (formF es) b P a = sI (fun h => (hg (cf .he) (gH b P a h) 0 (formF es) 0 - hg (lf .he) (gH b P a h) 0 (formF es) 0) + hg (lf .he) (gH b P a h) 0 (formF es) 0) 0 P.toNat :=
        sI_congr fun h _ _ => by omega
      rw [this, sI_lin (F := fun h => hg (cf .he) (gH b P a h) 0 (formF es) 0 - hg (lf .he) (gH b P a h) 0 (formF es) 0), q]
      omega
    rw [e1, e1]
    congr 1
    refine sI_congr fun h h0 h1 => ?_
    refine hg_same fn (fun x hx y hy xy => ?_) rfl rfl
    have hx : x ∈ bordE (formF es) := by rw [bordE, bord_pre]; exact hx
    have hy : y ∈ bordE (formF es) := by rw [bordE, bord_pre]; exact hy
    have cx := C x hx
    have cy := C y hy
    have l : h < P := by omega
    have m1 := gH_mono (a := s) hb hP h0 l xy
    have m2 := gH_mono (a := s + 2) hb hP h0 l xy
    have t := gF_two (h := h) hb hP (show x + s ≤ y + s by omega) cx.1 cy.1 cx.2 cy.2
    have k : ∀ z, gH b P s h z = gF b P (z + s) h := fun z => gH_eq hb hP h0 l
    have k2 : ∀ z, gH b P (s + 2) h z = gF b P (z + s + 2) h := fun z => by rw [gH_eq hb hP h0 l, Int.add_assoc]
    rw [k x, k y] at m1 ⊢
    rw [k2 x, k2 y] at m2 ⊢
    refine ⟨by omega, by omega, by omega, t.2.symm⟩
  · rw [dtot_lf d.nn (d.okw h) hb hP, dtot_lf d.nn (d.okw h) hb hP]
theorem dtot_mod (w : Way) (es : Ent) {b P : Int} (hb : 0 < b) (hP : 0 < P) (a : Int) : dtotF w es b P (a % b) = dtotF w es b P a := by
  rw [dtot_dH w es hb hP, dtot_dH w es hb hP]
  have h := dH_mod (f := cf w) (rs := formF es) hb hP (a % b) (a / b)
  rw [← h, show a % b + a / b * b = a by have := Int.emod_add_mul_ediv a b; rw [Int.mul_comm] at this; exact this]
/-! the values cover all shifts -/
theorem stz_cover : ∀ {l : List Int} {f P a : Int}, f ≤ a → a < P → ∃ q ∈ stz (f :: l) P, q.1 ≤ a ∧ a < q.2
  | [], f, P, a, h1, h2 => ⟨(f, P), by simp [stz], h1, h2⟩
  | g :: l, f, P, a, h1, h2 => by
    by_cases c : a < g
    · exact ⟨(f, g), by simp [stz], h1, c⟩
    · obtain ⟨q, hq, r⟩ := stz_cover (l := l) (f := g) (P := P) (a := a) (by omega) h2
      exact ⟨q, by rw [stz]; exact List.mem_cons_of_mem _ hq, r⟩
theorem brk_cons {bs : List Int} {b : Int} (hb : 0 < b) : ∃ l, brkF bs b = 0 :: l := by
  have h0 := brk_zero (bs := bs) (b := b)
  have hr := brk_range (bs := bs) hb
  have hs : (brkF bs b).Pairwise (· < ·) := ssort_sorted _
  cases q : brkF bs b with
  | nil => rw [q] at h0; cases h0
  | cons x l =>
    rw [q] at h0 hr hs
    have hx := hr x List.mem_cons_self
    rcases List.mem_cons.mp h0 with e | e
    · exact ⟨l, by rw [e]⟩
    · have := (List.pairwise_cons.mp hs).1 0 e
      omega
theorem brk_mem {bs : List Int} {b x : Int} (hx : x ∈ bs) (h : x % b ≠ 0) : b - x % b ∈ brkF bs b := by
  unfold brkF
  rw [mem_ssort]
  refine List.mem_append.mpr (.inr (List.mem_map.mpr ⟨x, List.mem_filter.mpr ⟨hx, decide_eq_true h⟩, rfl⟩))
/-- inside a piece no border passes -/
theorem piece_in {bs : List Int} {b : Int} (hb : 0 < b) {q : Int × Int} (hq : q ∈ pieF bs b) {s : Int} (h1 : q.1 < s) (h2 : s + 2 < q.2) : ∀ x ∈ bs, 1 ≤ (x + s) % b ∧ (x + s + 2) / b = (x + s) / b := by
  intro x hx
  have hr := brk_range (bs := bs) hb
  have hs : (brkF bs b).Pairwise (· < ·) := ssort_sorted _
  unfold pieF at hq
  rw [zip_stz] at hq
  obtain ⟨a1, a2, a3, a4, a5⟩ := stz_mem hs (fun x hx => (hr x hx).2) q hq
  have q0 := hr _ a1
  have e := Int.emod_add_mul_ediv x b
  have r0 := Int.emod_nonneg x (show b ≠ 0 by omega)
  have r1 := Int.emod_lt_of_pos x hb
  have key : ∀ (k z : Int), 0 ≤ z → z < b → (b * k + z) / b = k ∧ (b * k + z) % b = z := fun k z z0 z1 => by
    rw [Int.add_comm, Int.add_mul_ediv_left _ _ (by omega), Int.ediv_eq_zero_of_lt z0 z1, Int.add_mul_emod_self_left, Int.emod_eq_of_lt z0 z1]
    exact ⟨by omega, rfl⟩
  by_cases c : x % b = 0
  · have k1 := key (x / b) s (by omega) (by omega)
    have k2 := key (x / b) (s + 2) (by omega) (by omega)
    rw [show x + s = b * (x / b) + s by omega, show b * (x / b) + s + 2 = b * (x / b) + (s + 2) by omega, k1.1, k1.2, k2.1]
    omega
  · rcases a5 _ (brk_mem hx c) with d | d
    · have m : b * (x / b + 1) = b * (x / b) + b := by rw [Int.mul_add, Int.mul_one]
      have k1 := key (x / b + 1) (x % b + s - b) (by omega) (by omega)
      have k2 := key (x / b + 1) (x % b + s - b + 2) (by omega) (by omega)
      rw [show x + s = b * (x / b + 1) + (x % b + s - b) by omega, show b * (x / b + 1) + (x % b + s - b) + 2 = b * (x / b + 1) + (x % b + s - b + 2) by omega, k1.1, k1.2, k2.1]
      omega
    · have k1 := key (x / b) (x % b + s) (by omega) (by omega)
      have k2 := key (x / b) (x % b + s + 2) (by omega) (by omega)
      rw [show x + s = b * (x / b) + (x % b + s) by omega, show b * (x / b) + (x % b + s) + 2 = b * (x / b) + (x % b + s + 2) by omega, k1.1, k1.2, k2.1]
      omega
/-- a value: a shift of the block, its total -/
theorem val_mem {w : Way} {es : Ent} {b P : Int} (hP : 0 < P) (hm : mkb b P = b) (hb : 0 < b) : ∀ v ∈ valsF w (formF es) b P, 0 ≤ v.2.1 ∧ v.2.1 < b ∧ v.1 = dtotF w es b P v.2.1 := by
  intro v hv
  unfold valsF at hv
  obtain ⟨q, hq, hv⟩ := List.mem_flatMap.mp hv
  obtain ⟨k, hk, rfl⟩ := List.mem_map.mp hv
  have hk := List.mem_range.mp hk
  have hr := pie_range hb q hq
  have hl := pie_lt hb q hq
  have kk : q.1 + (k : Int) < q.2 := by unfold mn at hk; split at hk <;> omega
  refine ⟨by show 0 ≤ q.1 + (k : Int); omega, by show q.1 + (k : Int) < b; omega, ?_⟩
  show dealF _ _ _ _ _ ((q.1 + k) % (mkb b P * P)) = dtotF w es b P (q.1 + k)
  have bP : b * 1 ≤ b * P := Int.mul_le_mul_of_nonneg_left (by omega) (Int.le_of_lt hb)
  rw [hm, Int.emod_eq_of_lt (by omega) (by omega)]
  rfl
theorem val_all {w : Way} {es : Ent} (d : Dr w es) {b P : Int} (hP : 0 < P) (hm : mkb b P = b) (hb : 0 < b) : ∀ (n : Nat) (a : Int), a.toNat ≤ n → 0 ≤ a → a < b → ∃ v ∈ valsF w (formF es) b P, v.1 = dtotF w es b P a := by
  intro n
  induction n using Nat.strongRecOn with
  | _ n ih =>
    intro a hn a0 a1
    obtain ⟨l, e⟩ := brk_cons (bs := bordE (formF es)) hb
    obtain ⟨q, hq, q1, q2⟩ := stz_cover (l := l) a0 a1
    have hq : q ∈ pieF (bordE (formF es)) b := by
      unfold pieF
      rw [zip_stz, e]
      exact hq
    by_cases c : a - q.1 < 3
    · have hv : inF w (formF es) b P q (a - q.1).toNat ∈ valsF w (formF es) b P := by
        rw [vals_eq]
        refine List.mem_flatMap.mpr ⟨q, hq, List.mem_map.mpr ⟨_, List.mem_range.mpr ?_, rfl⟩⟩
        unfold mn
        split <;> omega
      refine ⟨_, hv, ?_⟩
      have := (val_mem hP hm hb _ hv).2.2
      rw [this]
      show dtotF w es b P (q.1 + ((a - q.1).toNat : Int)) = _
      rw [show q.1 + ((a - q.1).toNat : Int) = a by omega]
    · have hr := pie_range hb q hq
      have two := dtot_two d hb hP (piece_in hb hq (s := a - 2) (by omega) (by omega))
      rw [show a - 2 + 2 = a by omega] at two
      rw [two]
      exact ih (a - 2).toNat (by omega) (a - 2) (Nat.le_refl _) (by omega) (by omega)
theorem many_one (L : Int) (hL : 0 < L) : ((List.range (mn 3 L).toNat).map fun (k : Nat) => if (k : Int) ≠ 0 then (L - k + 1) / 2 else (1 : Int)).sum = L := by
  by_cases c1 : L = 1
  · subst c1; decide
  · by_cases c2 : L = 2
    · subst c2; decide
    · have : mn 3 L = 3 := by unfold mn; split <;> omega
      rw [this]
      simp [List.range_succ]
      omega
theorem val_many {w : Way} {rs : Ent} {b P : Int} (hb : 0 < b) : ((valsF w rs b P).map (·.2.2)).sum = b := by
  obtain ⟨l, e⟩ := brk_cons (bs := bordE rs) hb
  have hs : (brkF (bordE rs) b).Pairwise (· < ·) := ssort_sorted _
  have hr := brk_range (bs := bordE rs) hb
  unfold valsF pieF
  rw [zip_stz]
  rw [e] at hs hr ⊢
  have key : ∀ (l : List Int) (f : Int), (f :: l).Pairwise (· < ·) → (∀ x ∈ f :: l, x < b) →
      (((stz (f :: l) b).flatMap fun q => (List.range (mn 3 (q.2 - q.1)).toNat).map fun (k : Nat) =>
        ((dealF w (bordE rs) (prtE w rs) (mkb b P) P ((q.1 + k) % (mkb b P * P)), q.1 + (k : Int), if (k : Int) ≠ 0 then (q.2 - q.1 - k + 1) / 2 else 1) : Int × Int × Int)).map (·.2.2)).sum = b - f := by
    intro l
    induction l with
    | nil =>
      intro f _ h
      have := many_one (b - f) (by have := h f (by simp); omega)
      rw [stz, List.flatMap_cons, List.flatMap_nil, List.append_nil, List.map_map]
      exact this
    | cons g l ih =>
      intro f hs h
      obtain ⟨s1, s2⟩ := List.pairwise_cons.mp hs
      have m := many_one (g - f) (by have := s1 g (by simp); omega)
      rw [stz, List.flatMap_cons, List.map_append, List.sum_append, ih g s2 fun x hx => h x (List.mem_cons_of_mem _ hx), List.map_map]
      have : ((List.range (mn 3 (g - f)).toNat).map ((fun v : Int × Int × Int => v.2.2) ∘ fun (k : Nat) =>
        ((dealF w (bordE rs) (prtE w rs) (mkb b P) P ((f + k) % (mkb b P * P)), f + (k : Int), if (k : Int) ≠ 0 then (g - f - k + 1) / 2 else 1) : Int × Int × Int))).sum = g - f := m
      rw [this]
      omega
  have := key l 0 hs fun x hx => (hr x hx).2
  rw [this]
  omega
end KX
/-! The told totals, the least and the greatest; what the law's two larger parts ask holds. -/
namespace KX
open PySem PySem.Spec PyProof.Rows L2
theorem perm_sum {a b : List Int} (h : a.Perm b) : a.sum = b.sum := by
  induction h with
  | nil => rfl
  | cons x _ ih => rw [List.sum_cons, List.sum_cons, ih]
  | swap x y l => rw [List.sum_cons, List.sum_cons, List.sum_cons, List.sum_cons]; omega
  | trans _ _ h1 h2 => exact h1.trans h2
def ks (c : List (Int × Int)) : List Int := c.map (·.1)
theorem any_ks {c : List (Int × Int)} {k : Int} : (c.any fun p => decide (p.1 = k)) = true ↔ k ∈ ks c := by
  simp [ks]
theorem put_ks {c : List (Int × Int)} {k v : Int} : ks (putZ c k v) = if k ∈ ks c then ks c else ks c ++ [k] := by
  unfold putZ
  by_cases h : k ∈ ks c
  · rw [if_pos (any_ks.mpr h), if_pos h]
    unfold ks
    rw [List.map_map]
    refine List.map_congr_left fun p _ => ?_
    show (if p.1 = k then (p.1, v) else p).1 = p.1
    split <;> rfl
  · rw [if_neg (fun q => h (any_ks.mp q)), if_neg h]
    unfold ks
    rw [List.map_append]
    rfl
theorem get_mem {c : List (Int × Int)} (h : (ks c).Nodup) : ∀ p ∈ c, getZ c p.1 = some p.2 := by
  induction c with
  | nil => intro p hp; cases hp
  | cons x c ih =>
    intro p hp
    obtain ⟨h1, h2⟩ := List.nodup_cons.mp h
    unfold getZ
    rw [List.find?_cons]
    rcases List.mem_cons.mp hp with e | e
    · rw [e]
      simp
    · by_cases q : x.1 = p.1
      · exact absurd (List.mem_map.mpr ⟨p, e, q.symm⟩) h1
      · rw [decide_eq_false q]
        exact ih h2 p e
theorem get_none {c : List (Int × Int)} {k : Int} (h : k ∉ ks c) : getZ c k = none := by
  unfold getZ
  rw [List.find?_eq_none.mpr]
  · rfl
  · intro p hp e
    exact h (List.mem_map.mpr ⟨p, hp, of_decide_eq_true e⟩)
def sv (c : List (Int × Int)) : Int := (c.map (·.2)).sum
theorem put_sv {c : List (Int × Int)} {k m : Int} (h : (ks c).Nodup) : sv (putZ c k ((getZ c k).getD 0 + m)) = sv c + m := by
  unfold putZ
  by_cases hk : k ∈ ks c
  · rw [if_pos (any_ks.mpr hk)]
    obtain ⟨p, hp, e⟩ := List.mem_map.mp hk
    have g := get_mem h p hp
    rw [e] at g
    rw [g]
    show sv (c.map fun p_1 => if p_1.1 = k then (p_1.1, p.2 + m) else p_1) = _
    clear g
    induction c with
    | nil => cases hp
    | cons x c ih =>
      obtain ⟨h1, h2⟩ := List.nodup_cons.mp h
      show ((List.map (fun p_1 : Int × Int => if p_1.1 = k then (p_1.1, p.2 + m) else p_1) (x :: c)).map (fun z : Int × Int => z.2)).sum = ((x :: c).map (fun z : Int × Int => z.2)).sum + m
      rw [List.map_cons, List.map_cons, List.map_cons, List.sum_cons, List.sum_cons]
      by_cases q : x.1 = k
      · have same : (c.map fun z => if z.1 = k then (z.1, p.2 + m) else z) = c := by
          conv => rhs; rw [← List.map_id c]
          refine List.map_congr_left fun z hz => ?_
          rw [if_neg]
          · rfl
          · intro e2
            exact h1 (List.mem_map.mpr ⟨z, hz, e2.trans q.symm⟩)
        rw [same, if_pos q]
        have : p = x := by
          rcases List.mem_cons.mp hp with z | z
          · exact z
          · exact absurd (List.mem_map.mpr ⟨p, z, e.trans q.symm⟩) h1
        rw [this]
        show x.2 + m + _ = x.2 + _ + m
        omega
      · rw [if_neg q]
        have hp' : p ∈ c := by
          rcases List.mem_cons.mp hp with z | z
          · exact absurd (by rw [← z]; exact e) q
          · exact z
        have := ih h2 (List.mem_map.mpr ⟨p, hp', e⟩) hp'
        have : ((c.map fun z => if z.1 = k then (z.1, p.2 + m) else z).map (·.2)).sum = (c.map (·.2)).sum + m := this
        rw [this]
        omega
  · rw [if_neg (fun q => hk (any_ks.mp q)), get_none hk]
    unfold sv
    rw [List.map_append, List.sum_append]
    simp
structure Cn (c : List (Int × Int)) (vs : List (Int × Int × Int)) : Prop where
  nd : (ks c).Nodup
  me : ∀ k, k ∈ ks c ↔ ∃ v ∈ vs, v.1 = k
  su : sv c = (vs.map (·.2.2)).sum
  le : c.length ≤ vs.length
theorem cn_go : ∀ (vs us : List (Int × Int × Int)) (c : List (Int × Int)), Cn c us → Cn (vs.foldl (fun s v => putZ s v.1 ((getZ s v.1).getD 0 + v.2.2)) c) (us ++ vs)
  | [], us, c, h => by rw [List.append_nil]; exact h
  | v :: vs, us, c, h => by
    rw [List.foldl_cons, show us ++ v :: vs = (us ++ [v]) ++ vs by simp]
    refine cn_go vs (us ++ [v]) _ ⟨?_, fun k => ?_, ?_, ?_⟩
    · rw [put_ks]
      split
      · exact h.nd
      · rename_i q
        refine List.nodup_append.mpr ⟨h.nd, by simp, fun a ha b hb e => ?_⟩
        rw [List.mem_singleton.mp hb] at e
        exact q (e ▸ ha)
    · have m : k ∈ ks (putZ c v.1 ((getZ c v.1).getD 0 + v.2.2)) ↔ k ∈ ks c ∨ k = v.1 := by
        rw [put_ks]
        split
        · rename_i q
          constructor
          · exact .inl
          · rintro (z | z)
            · exact z
            · rw [z]; exact q
        · rw [List.mem_append, List.mem_singleton]
      rw [m, h.me]
      constructor
      · rintro (⟨x, hx, e⟩ | e)
        · exact ⟨x, by simp [hx], e⟩
        · exact ⟨v, by simp, e.symm⟩
      · rintro ⟨x, hx, e⟩
        rcases List.mem_append.mp hx with z | z
        · exact .inl ⟨x, z, e⟩
        · rw [List.mem_singleton.mp z] at e
          exact .inr e.symm
    · rw [put_sv h.nd, h.su, List.map_append, List.sum_append]
      simp
    · have l : ∀ v w, (putZ c v w).length ≤ c.length + 1 := fun v w => by
        unfold putZ
        split <;> simp
      have := l v.1 ((getZ c v.1).getD 0 + v.2.2)
      have := h.le
      simp only [List.length_append, List.length_singleton]
      omega
theorem cn_ok (vs : List (Int × Int × Int)) : Cn (cntsF vs) vs :=
  cn_go vs [] [] ⟨by simp [ks], fun k => by simp [ks], rfl, Nat.le_refl _⟩
theorem told_fst (w : Way) (es : Ent) (b P : Int) : (told w es b P).map (·.1) = srt1 (ks (cntsF (valsF w (formF es) b P))) := by
  unfold told
  dsimp only
  rw [List.map_map]
  exact List.map_id _
theorem told_sum (w : Way) (es : Ent) (b P : Int) : ((told w es b P).map (·.2)).sum = ((valsF w (formF es) b P).map (·.2.2)).sum := by
  have c := cn_ok (valsF w (formF es) b P)
  rw [← c.su]
  unfold told
  dsimp only
  rw [List.map_map]
  generalize cntsF (valsF w (formF es) b P) = q at c ⊢
  have p : (srt1 (ks q)).Perm (ks q) := List.mergeSort_perm _ _
  rw [show ((fun x : Int × Int => x.2) ∘ fun u => (u, (getZ q u).getD 0)) = fun u => (getZ q u).getD 0 from rfl]
  show ((srt1 (ks q)).map fun u => (getZ q u).getD 0).sum = sv q
  rw [perm_sum (p.map fun u => (getZ q u).getD 0)]
  unfold ks sv
  rw [List.map_map]
  congr 1
  refine List.map_congr_left fun x hx => ?_
  show (getZ q x.1).getD 0 = x.2
  rw [get_mem c.nd x hx]
  rfl
/-! lists in order -/
theorem ll_trans (a b c : List Int) (h1 : decide (a ≤ b) = true) (h2 : decide (b ≤ c) = true) : decide (a ≤ c) = true :=
  decide_eq_true (List.le_trans (of_decide_eq_true h1) (of_decide_eq_true h2))
theorem ll_total (a b : List Int) : (decide (a ≤ b) || decide (b ≤ a)) = true := by
  rw [Bool.or_eq_true, decide_eq_true_eq, decide_eq_true_eq]
  exact List.le_total a b
theorem ll_head {a b : Int} {l m : List Int} (h : a :: l ≤ b :: m) : a ≤ b := by
  rcases List.cons_le_cons_iff.mp h with h | h
  · exact Int.le_of_lt h
  · exact Int.le_of_eq h.1
theorem srt_head {rows : List (List Int)} (h : rows ≠ []) : ∃ r, r ∈ rows ∧ (sortT rows).headD [] = r ∧ ∀ x ∈ rows, r ≤ x := by
  have hp := List.pairwise_mergeSort (le := fun p q : List Int => decide (p ≤ q)) ll_trans ll_total rows
  have hm := List.mergeSort_perm rows (fun p q : List Int => decide (p ≤ q))
  unfold sortT
  cases q : rows.mergeSort (fun p q : List Int => decide (p ≤ q)) with
  | nil =>
    rw [q] at hm
    exact absurd (List.nil_perm.mp hm) h
  | cons r l =>
    rw [q] at hm hp
    refine ⟨r, hm.mem_iff.mp List.mem_cons_self, rfl, fun x hx => ?_⟩
    rcases List.mem_cons.mp (hm.mem_iff.mpr hx) with e | e
    · rw [e]
      exact List.le_refl _
    · exact of_decide_eq_true ((List.pairwise_cons.mp hp).1 x e)
theorem least_ok {w : Way} {es : Ent} {b P : Int} (hb : 0 < b) : ∃ v ∈ valsF w (formF es) b P, leastF w es b P = [v.1, v.2.1, v.2.2] ∧ ∀ u ∈ valsF w (formF es) b P, v.1 ≤ u.1 := by
  obtain ⟨r, hr, e, m⟩ := srt_head (rows := (valsF w (formF es) b P).map fun v => [v.1, v.2.1, v.2.2]) (by simpa using vals_ne hb)
  obtain ⟨v, hv, rfl⟩ := List.mem_map.mp hr
  exact ⟨v, hv, e, fun u hu => ll_head (m _ (List.mem_map.mpr ⟨u, hu, rfl⟩))⟩
theorem great_ok {w : Way} {es : Ent} {b P : Int} (hb : 0 < b) : ∃ v ∈ valsF w (formF es) b P, greatF w es b P = [-v.1, v.2.1] ∧ ∀ u ∈ valsF w (formF es) b P, u.1 ≤ v.1 := by
  obtain ⟨r, hr, e, m⟩ := srt_head (rows := (valsF w (formF es) b P).map fun v => [-v.1, v.2.1]) (by simpa using vals_ne hb)
  obtain ⟨v, hv, rfl⟩ := List.mem_map.mp hr
  refine ⟨v, hv, e, fun u hu => ?_⟩
  have := ll_head (m _ (List.mem_map.mpr ⟨u, hu, rfl⟩))
  omega
theorem sorted_first {l : List Int} (hs : l.Pairwise (· ≤ ·)) {m : Int} (hm : m ∈ l) (h : ∀ x ∈ l, m ≤ x) : l.head? = some m := by
  cases l with
  | nil => cases hm
  | cons x l =>
    have h1 := h x List.mem_cons_self
    rcases List.mem_cons.mp hm with e | e
    · rw [e]; rfl
    · have := (List.pairwise_cons.mp hs).1 m e
      rw [show m = x by omega]
      rfl
theorem sorted_last {l : List Int} (hs : l.Pairwise (· ≤ ·)) {m : Int} (hm : m ∈ l) (h : ∀ x ∈ l, x ≤ m) : l.getLast? = some m := by
  rcases List.eq_nil_or_concat l with c | ⟨k, x, c⟩
  · subst c; cases hm
  · rw [List.concat_eq_append] at c
    subst c
    rw [List.getLast?_concat]
    have h1 := h x (by simp)
    rcases List.mem_append.mp hm with e | e
    · have := (List.pairwise_append.mp hs).2.2 m e x (by simp)
      rw [show m = x by omega]
    · rw [List.mem_singleton.mp e]
/-! bounds -/
theorem sg_small : ∀ (w : Way) (n : Int), -25 ≤ n → n ≤ 25 → -4 ≤ sg w n ∧ sg w n ≤ 4 := by
  have h : ∀ k : Fin 51, ∀ w ∈ [Way.he, .fl, .hu, .cu, .ha], -4 ≤ sg w ((k.val : Int) - 25) ∧ sg w ((k.val : Int) - 25) ≤ 4 := by decide
  intro w n h1 h2
  have := h ⟨(n + 25).toNat, by omega⟩ w (by cases w <;> simp)
  simp only [] at this
  rw [show (((n + 25).toNat : Nat) : Int) - 25 = n by omega] at this
  exact this
theorem sgl_small {w : Way} : ∀ {es : Ent}, (∀ e ∈ es, 0 ≤ e.2) → (∀ e ∈ es, -25 ≤ e.1 ∧ e.1 ≤ 25) → -(4 * sT es) ≤ sgl w es ∧ sgl w es ≤ 4 * sT es
  | [], _, _ => by simp [sgl, sT]
  | e :: r, h1, h2 => by
    have ih := sgl_small (w := w) (es := r) (fun q hq => h1 q (List.mem_cons_of_mem _ hq)) (fun q hq => h2 q (List.mem_cons_of_mem _ hq))
    have s := h2 e (by simp)
    have a := sg_small w e.1 s.1 s.2
    have t0 := h1 e (by simp)
    have m1 := Int.mul_le_mul_of_nonneg_left a.2 t0
    have m2 := Int.mul_le_mul_of_nonneg_left a.1 t0
    rw [sT_cons]
    show _ ≤ e.2 * sg w e.1 + sgl w r ∧ e.2 * sg w e.1 + sgl w r ≤ _
    omega
theorem best_bd {P : Int} (hP : 0 < P) : ∀ (rs : List (Kd × Int)) (T N : Int), (∀ x ∈ rs, 0 < x.2) → 0 ≤ N → T - sR rs ≤ bestGo P rs T N ∧ bestGo P rs T N ≤ T + sR rs
  | [], T, N, _, _ => by
    show T - 0 ≤ T ∧ T ≤ T + 0
    omega
  | (.tu, t) :: r, T, N, hp, n0 => by
    have ht : 0 < t := hp (.tu, t) (by simp)
    obtain ⟨av, e⟩ : ∃ av, bestGo P ((.tu, t) :: r) T N = bestGo P r T (oddHF N t P av) := ⟨_, rfl⟩
    have ih := best_bd hP r T (oddHF N t P av) (fun x hx => hp x (List.mem_cons_of_mem _ hx)) (odd_ok hP ht n0).1
    rw [e]
    show T - (t + sR r) ≤ _ ∧ _ ≤ T + (t + sR r)
    omega
  | (.ev, t) :: r, T, N, hp, n0 => by
    have ht : 0 < t := hp (.ev, t) (by simp)
    have h : 0 ≤ mn N t ∧ mn N t ≤ N ∧ mn N t ≤ t := by unfold mn; split <;> omega
    have ih := best_bd hP r (T + mn N t) (N - mn N t) (fun x hx => hp x (List.mem_cons_of_mem _ hx)) (by omega)
    show T - (t + sR r) ≤ bestGo P r (T + mn N t) (N - mn N t) ∧ bestGo P r (T + mn N t) (N - mn N t) ≤ T + (t + sR r)
    omega
  | (.od, t) :: r, T, N, hp, n0 => by
    have ht : 0 < t := hp (.od, t) (by simp)
    have hp' : ∀ x ∈ r, 0 < x.2 := fun x hx => hp x (List.mem_cons_of_mem _ hx)
    show T - (t + sR r) ≤ (if P = 1 ∧ N = 1 then bestGo P r (T - 1) 0 else bestGo P r T N) ∧ (if P = 1 ∧ N = 1 then bestGo P r (T - 1) 0 else bestGo P r T N) ≤ T + (t + sR r)
    split
    · have ih := best_bd hP r (T - 1) 0 hp' (by omega)
      omega
    · have ih := best_bd hP r T N hp' n0
      omega
theorem bestF_bd {es : Ent} (he : ∀ e ∈ es, 0 ≤ e.2) (hs : ∀ e ∈ es, -25 ≤ e.1 ∧ e.1 ≤ 25) {P : Int} (hP : 0 < P) : -(5 * sT es) ≤ bestF es P ∧ bestF es P ≤ 5 * sT es := by
  have a := sgl_small (w := .he) he hs
  rw [sgl_lin] at a
  have b := best_bd hP (rn es) (lin es) 0 (rn_pos es) (Int.le_refl 0)
  have c := sR_rn he
  unfold bestF
  rw [runs_eq he]
  show -(5 * sT es) ≤ bestGo P (rn es) (lin es) 0 ∧ bestGo P (rn es) (lin es) 0 ≤ 5 * sT es
  omega
theorem sT_neg (es : Ent) : sT (negE es) = sT es := by unfold sT; rw [neg_snd]
theorem giv_bd {w : Way} {es : Ent} (d : Dr w es) {P : Int} (hP : 0 < P) : -(10 ^ 43) ≤ givLo w es P ∧ givLo w es P ≤ 10 ^ 43 ∧ -(10 ^ 43) ≤ givHi w es P ∧ givHi w es P ≤ 10 ^ 43 := by
  have t := tot_le d
  by_cases h : w = .he
  · subst h
    have a := bestF_bd d.nn d.sm hP
    have b := bestF_bd (neg_nn d.nn) (P := P) (fun e he => by
      obtain ⟨q, hq, rfl⟩ := List.mem_map.mp he
      have := d.sm q hq
      show -25 ≤ -q.1 ∧ -q.1 ≤ 25
      omega) hP
    rw [sT_neg] at b
    show -(10 ^ 43) ≤ -bestF (negE es) P ∧ -bestF (negE es) P ≤ 10 ^ 43 ∧ -(10 ^ 43) ≤ bestF es P ∧ bestF es P ≤ 10 ^ 43
    omega
  · obtain ⟨e1, e2⟩ := giv_lf d h P
    rw [e1, e2]
    have a := sgl_small (w := w) d.nn d.sm
    omega
theorem big_ok {x : Int} {k : Nat} (hk : 200 ≤ k) (h : -(10 ^ 44) ≤ x ∧ x ≤ 10 ^ 44) : x.natAbs < 2 ^ k := by
  have a : x.natAbs < 2 ^ 200 := by
    have : (2 : Nat) ^ 200 = 1606938044258990275541962092341162602522202993782792835301376 := by decide
    omega
  exact Nat.lt_of_lt_of_le a (Nat.pow_le_pow_right (by decide) hk)
theorem preG {w : Way} {es : Ent} (d : Dr w es) {P : Int} (hP : 0 < P) : PreG es w P := by
  have t := tot_le d
  refine ⟨d.ok, d.told, hP, fun Q hQ => ?_, ?_, fun h => ?_, fun h => ?_⟩
  · have b := giv_bd d hQ
    exact ⟨big_ok (by decide) (by omega), big_ok (by decide) (by omega)⟩
  · have a := chain_P d hP (show P ≤ P + 1 by omega)
    have b := giv_le2 d hP
    exact ris4 (by omega) (by omega) (by omega)
  · subst h
    have e : topP (negE es) ≤ 10 ^ 59 := by
      rw [neg_top]
      show 2 + sT es ≤ _
      omega
    obtain ⟨a1, a2, a3⟩ := eno_ok (neg_nn d.nn) e
    refine ⟨a1, ?_, fun q => ?_⟩
    · show -bestF (negE es) _ = -bestF (negE es) _
      rw [a2]
    · have := a3 q
      show -bestF (negE es) _ ≠ -bestF (negE es) _
      omega
  · subst h
    have e : topP es ≤ 10 ^ 59 := by
      show 2 + sT es ≤ _
      omega
    exact eno_ok d.nn e
theorem preS {w : Way} {es : Ent} (d : Dr w es) {b P a : Int} (k : OkD b P a) : PreS es b P a w (10 * givLo w es P) (10 * givHi w es P) := by
  have hb := k.b0
  have hP := k.P0
  have hm := mkb_same k
  have bd := giv_bd d hP
  have ch : ∀ a, givLo w es P ≤ dtotF w es b P a ∧ dtotF w es b P a ≤ givHi w es P := fun a => chain_deal d hb hP
  obtain ⟨v, hv, ve, vm⟩ := least_ok (w := w) (es := es) (P := P) hb
  obtain ⟨u, hu, ue, um⟩ := great_ok (w := w) (es := es) (P := P) hb
  obtain ⟨v0, v1, v2⟩ := val_mem hP hm hb v hv
  obtain ⟨u0, u1, u2⟩ := val_mem hP hm hb u hu
  have m0 := Int.emod_nonneg a (show b ≠ 0 by omega)
  have m1 := Int.emod_lt_of_pos a hb
  obtain ⟨x, hx, xe⟩ := val_all d hP hm hb _ (a % b) (Nat.le_refl _) m0 m1
  rw [dtot_mod w es hb hP] at xe
  have l1 := vm x hx
  have l2 := um x hx
  have c1 := ch a
  have c2 := ch v.2.1
  have c3 := ch u.2.1
  have cn := cn_ok (valsF w (formF es) b P)
  have tf := told_fst w es b P
  have pm : (srt1 (ks (cntsF (valsF w (formF es) b P)))).Perm (ks (cntsF (valsF w (formF es) b P))) := List.mergeSort_perm _ _
  have tm : ∀ z, z ∈ (told w es b P).map (·.1) ↔ ∃ v ∈ valsF w (formF es) b P, v.1 = z := fun z => by rw [tf, pm.mem_iff, cn.me]
  have ts : ((told w es b P).map (·.1)).Pairwise (· ≤ ·) := by rw [tf]; exact srt1_sorted _
  have ev0 : (leastF w es b P).getD 0 0 = v.1 := by rw [ve]; rfl
  have ev1 : (leastF w es b P).getD 1 0 = v.2.1 := by rw [ve]; rfl
  have eu0 : (greatF w es b P).getD 0 0 = -u.1 := by rw [ue]; rfl
  have eu1 : (greatF w es b P).getD 1 0 = u.2.1 := by rw [ue]; rfl
  refine ⟨d.ok, k, d.told2, ⟨big_ok (by decide) (by omega), big_ok (by decide) (by omega), big_ok (by decide) (by omega)⟩, ⟨?_, ?_⟩, ?_, ?_, ?_, ?_, ?_, ⟨?_, ?_⟩, ?_, ?_, ?_, ?_⟩
  · rw [ev0]; exact big_ok (by decide) (by omega)
  · rw [eu0]; exact big_ok (by decide) (by omega)
  · rw [ev0, eu0]
    exact ris5 (by omega) (by omega) (by omega) (by omega)
  · rw [ev1]; exact ⟨v0, v1⟩
  · rw [ev1, ev0]; exact v2.symm
  · rw [eu1]; exact ⟨u0, u1⟩
  · rw [eu1, eu0, Int.neg_neg]; exact u2.symm
  · have := (tm v.1).mpr ⟨v, hv, rfl⟩
    have := List.length_pos_of_mem this
    rw [List.length_map] at this
    exact this
  · have := cn.le
    have l15 := vals_len (w := w) (b := b) (P := P) d.ok.form
    have e : (told w es b P).length = (cntsF (valsF w (formF es) b P)).length := by
      have := congrArg List.length tf
      rw [List.length_map, pm.length_eq] at this
      rw [this]
      unfold ks
      rw [List.length_map]
    omega
  · rw [ev0]
    refine sorted_first ts ((tm v.1).mpr ⟨v, hv, rfl⟩) fun z hz => ?_
    obtain ⟨y, hy, e⟩ := (tm z).mp hz
    rw [← e]
    exact vm y hy
  · rw [eu0, Int.neg_neg]
    refine sorted_last ts ((tm u.1).mpr ⟨u, hu, rfl⟩) fun z hz => ?_
    obtain ⟨y, hy, e⟩ := (tm z).mp hz
    rw [← e]
    exact um y hy
  · rw [told_sum, val_many hb]
  · exact (tm _).mpr ⟨x, hx, xe⟩
end KX
/-! The law's pen: what lies in it, what a draw leaves; judgements for parts that draw. -/
namespace KX
open PySem PySem.Spec PyProof.Rows L2
abbrev penO (c : Addr) (n l : Int) : HO := .dK [((.inr "cells" : Key), V.ref c), ((.inr "count" : Key), V.int n), ((.inr "left" : Key), V.int l)]
/-- a pen that has drawn at most N cells; its cells are settled -/
def PenAt (Hb H : Hp) (p : Addr) (N : Nat) : Prop := ∃ (c : Addr) (ns : List Int) (n : Nat) (l : Int), H p = some (penO c n l) ∧ Hb c = some (.lst (ns.map V.int)) ∧ ns.length ≤ 63 ∧ n ≤ N
theorem PenAt.mono {Hb H : Hp} {p : Addr} {N M : Nat} (h : PenAt Hb H p N) (q : N ≤ M) : PenAt Hb H p M := by
  obtain ⟨c, ns, n, l, h1, h2, h3, h4⟩ := h
  exact ⟨c, ns, n, l, h1, h2, h3, Nat.le_trans h4 q⟩
theorem PenAt.same {Hb Hn H H' : Hp} {p : Addr} {N : Nat} (h : PenAt Hb H p N) (m : Same Hb Hn) (s : Same H H') : PenAt Hn H' p N := by
  obtain ⟨c, ns, n, l, h1, h2, h3, h4⟩ := h
  exact ⟨c, ns, n, l, s _ _ h1, m _ _ h2, h3, h4⟩
theorem PenAt.there {Hb H : Hp} {p : Addr} {N : Nat} (h : PenAt Hb H p N) : H p ≠ none := by
  obtain ⟨c, ns, n, l, h1, _⟩ := h
  rw [h1]
  intro z
  cases z
/-- what a step that may draw leaves -/
structure Fp (p : Addr) (Hb H1 Hn H2 : Hp) : Prop where
  bn : Same Hb Hn
  n2 : Same Hn H2
  s : ∀ b x, b ≠ p → H1 b = some x → H2 b = some x
  t : H1 p ≠ none → H2 p ≠ none
  df : ∀ b, Hb b = none → H1 b ≠ none → Hn b = none
theorem Fx.fp {Hb H Hn H2 : Hp} (f : Fx Hb H Hn H2) (p : Addr) : Fp p Hb H Hn H2 := ⟨f.bn, f.n2, fun b x _ e => f.s b x e, fun h => (by
  cases q : H p with
  | none => exact absurd q h
  | some o =>
    rw [f.s p o q]
    intro z
    cases z), f.df⟩
theorem Fp.there {p : Addr} {Hb H1 Hn H2 : Hp} (f : Fp p Hb H1 Hn H2) {b : Addr} (h : H1 b ≠ none) : H2 b ≠ none := by
  by_cases q : b = p
  · rw [q] at h ⊢
    exact f.t h
  · cases e : H1 b with
    | none => exact absurd e h
    | some o => rw [f.s b o q e]; intro z; cases z
theorem Fp.trans {p : Addr} {Hb H1 Hn H2 Hm H3 : Hp} (a : Fp p Hb H1 Hn H2) (b : Fp p Hn H2 Hm H3) : Fp p Hb H1 Hm H3 :=
  ⟨a.bn.trans b.bn, b.n2, fun c x h e => b.s c x h (a.s c x h e), fun h => b.t (a.t h), fun c h1 h2 => b.df c (a.df c h1 h2) (a.there h2)⟩
theorem Fp.off {p : Addr} {Hb H1 Hn H2 : Hp} (f : Fp p Hb H1 Hn H2) (h : H1 p = none) : Fx Hb H1 Hn H2 :=
  ⟨f.bn, f.n2, fun b x e => f.s b x (fun q => by rw [q, h] at e; cases e) e, f.df⟩
section
variable {K : PySem.W.Frag} {H0 Hb H Hn H2 : Hp} {σ : L2.St} {δ : KX.Env} {ow : Own} {p : Addr} {N : Nat}
theorem own_ne {c : OV} {l : Addr} {Hb' : Hp} (h : c.at_ K Hb H l) (pa : PenAt Hb' H p N) : l ≠ p := by
  obtain ⟨c', ns, n, l', h1, _⟩ := pa
  intro e
  rw [e] at h
  cases c with
  | l ds =>
    obtain ⟨vs, h2, _⟩ := h
    rw [h1] at h2
    cases h2
  | d kvs =>
    have h2 : H p = some (.dK (encK kvs)) := h
    rw [h1] at h2
    have h3 := Option.some.inj h2
    have h4 := HO.dK.inj h3
    cases kvs with
    | nil => cases h4
    | cons x kvs =>
      have h5 := (List.cons.inj h4).1
      cases h5
theorem OV.fp {c : OV} {l : Addr} (h : c.at_ K Hb H l) (f : Fp p Hb H Hn H2) (ne : l ≠ p) : c.at_ K Hn H2 l := by
  cases c with
  | l ds =>
    obtain ⟨vs, h1, h2⟩ := h
    exact ⟨vs, f.s _ _ ne h1, h2.mono f.bn⟩
  | d kvs => exact f.s _ _ ne h
theorem SS.fp (s : SS K H0 Hb H σ δ ow) (f : Fp p Hb H Hn H2) (pa : PenAt Hb H p N) : SS K H0 Hn H2 σ δ ow := by
  refine ⟨f.n2, fun i d e => ?_, s.len, fun i ds e => ?_⟩
  · obtain ⟨v, h1, h2⟩ := s.rep i d e
    exact ⟨v, h1, h2.mono f.bn⟩
  · obtain ⟨hd, l, h1, h2, h3, h4⟩ := s.own i ds e
    exact ⟨hd, l, h1, h2, f.df l h3 (OV.there h4), OV.fp h4 f (own_ne h4 pa)⟩
end
/-! ### promises of the draws -/
def spP {α : Type} (K : PySem.W.Frag) (enc : α → List D) (pre : α → Prop) (add : Nat) (post : α → D → Prop) : Sp := fun vs H Q _ => ∃ (p : Addr) (N : Nat) (Hb : Hp) (rest : List V) (a : α), vs = .ref p :: rest ∧ Same Hb H ∧ Hb p = none ∧ PenAt Hb H p N ∧ N + add ≤ 1000 ∧ RepL K Hb rest (enc a) ∧ pre a ∧
  ∀ v d Hn H', Fp p Hb H Hn H' → PenAt Hn H' p (N + add) → Rep K Hn v d → post a d → Q v H'
def spBegin (K : PySem.W.Frag) : Sp := fun vs H Q _ => ∃ (l : Addr) (ns : List Int) (Hb : Hp), vs = [.ref l] ∧ Same Hb H ∧ SqL K Hb l (ns.map V.int) ∧ ∀ p Hn H', Fx Hb H Hn H' → H p = none → Hn p = none → PenAt Hn H' p 0 → Q (.ref p) H'
def encEs (es : Ent) : D := dE es
/-- the entries that the law draws, by the way -/
structure Drawn (w : Way) (es : Ent) : Prop where
  few : es.length ≤ 3
  one : 1 ≤ es.length
  nn : ∀ e ∈ es, 0 ≤ e.2
  ts : ∀ e ∈ es, e.2 ≤ 10 ^ 41
  sm : ∀ e ∈ es, -25 ≤ e.1 ∧ e.1 ≤ 25
  po : w = .cu ∨ w = .ha → ∀ e ∈ es, 0 ≤ e.1
section
variable (K : PySem.W.Frag)
abbrev sp__law_begin : Sp := spBegin K
abbrev sp__law_draw : Sp := spP K (fun n : Int => [.int n]) (fun n => 0 < n ∧ n < 1000) 1 (fun n d => ∃ r, d = .int r ∧ 0 ≤ r ∧ r < n)
abbrev sp__law_pick : Sp := spP K (fun ds : List D => [.lst ds]) (fun ds => 0 < ds.length ∧ ds.length < 1000) 1 (fun ds d => d ∈ ds)
abbrev sp__law_ten : Sp := spA K (fun i : Int => [.int i]) (fun i => 0 ≤ i ∧ i < 40) (fun i => .int ((10 ^ i.toNat : Nat) : Int))
abbrev sp__law_size : Sp := spP K (fun n : Int => [.int n]) (fun n => 0 < n ∧ n ≤ 40) 5 (fun _ d => ∃ r, d = .int r ∧ 1 ≤ r ∧ r ≤ 10 ^ 40)
abbrev sp__law_entries : Sp := spP K (fun w : Way => [.str w.s]) (fun _ => True) 28 (fun w d => ∃ es, d = dE es ∧ Drawn w es)
end
/-! ### judgements -/
def EP (K : PySem.W.Frag) (pn : Nat) (te : TE) (δ : KX.Env) (ow : Own) (k : Nat) (P : D → Prop) : Prop := ∀ (p : Addr) (N : Nat) (H0 Hb H : Hp) (σ : L2.St) (Q : VK), N + k ≤ 1000 → SS K H0 Hb H σ δ ow → σ[pn]? = some (some (.ref p)) → Hb p = none → PenAt Hb H p N →
  (∀ v d Hn H2, Fp p Hb H Hn H2 → PenAt Hn H2 p (N + k) → Rep K Hn v d → P d → Q v H2) → te σ H Q
def EPA (K : PySem.W.Frag) (pn : Nat) (ta : TA) (δ : KX.Env) (ow : Own) (k : Nat) (P : List D → Prop) : Prop := ∀ (p : Addr) (N : Nat) (H0 Hb H : Hp) (σ : L2.St) (Q : List V → Hp → Prop), N + k ≤ 1000 → SS K H0 Hb H σ δ ow → σ[pn]? = some (some (.ref p)) → Hb p = none → PenAt Hb H p N →
  (∀ vs ds Hn H2, Fp p Hb H Hn H2 → PenAt Hn H2 p (N + k) → RepL K Hn vs ds → P ds → Q vs H2) → ta σ H Q
def EPS (K : PySem.W.Frag) (pn : Nat) (ts : TS) (δ : KX.Env) (ow : Own) (k : Nat) (Nx : KX.Env → Own → Prop) (R : D → Prop) : Prop := ∀ (p : Addr) (N : Nat) (Hb0 H0 Hb H : Hp) (σ : L2.St) (En : Ends), N + k ≤ 1000 → Fp p Hb0 H0 Hb H → SS K H0 Hb H σ δ ow → σ[pn]? = some (some (.ref p)) → Hb p = none → PenAt Hb H p N →
  (∀ δ' ow' Hb' H' σ', Fp p Hb0 H0 Hb' H' → SS K H0 Hb' H' σ' δ' ow' → σ'[pn]? = some (some (.ref p)) → Hb' p = none → PenAt Hb' H' p (N + k) → Nx δ' ow' → En.nx σ' H') →
  (∀ v d Hn H', Fp p Hb0 H0 Hn H' → PenAt Hn H' p (N + k) → Rep K Hn v d → R d → En.rt v H') → ts En σ H
section
variable {K : PySem.W.Frag} {pn : Nat} {δ : KX.Env} {ow : Own} {ta tb te : TE} {tr : TA} {tt : TT} {ts us : TS} {d : D} {ds : List D} {k k1 k2 : Nat} {P P1 P2 : D → Prop} {PA PA2 : List D → Prop} {b : Bool} {Nx : KX.Env → Own → Prop} {R : D → Prop}
theorem ep_ed (h : ED K te δ ow d) (hP : P d) : EP K pn te δ ow k P := fun p N H0 Hb H σ Q hN s hp hb pa kk => by
  refine h H0 Hb H σ Q s fun v Hn H2 f r => ?_
  exact kk v d Hn H2 (f.fp p) ((pa.same f.bn f.s).mono (by omega)) r hP
theorem ep_mono (h : EP K pn te δ ow k1 P1) (hk : k1 ≤ k) (hP : ∀ d, P1 d → P d) : EP K pn te δ ow k P := fun p N H0 Hb H σ Q hN s hp hb pa kk =>
  h p N H0 Hb H σ Q (by omega) s hp hb pa fun v d Hn H2 f pa2 r q => kk v d Hn H2 f (pa2.mono (by omega)) r (hP d q)
theorem ep_2 {r : R2} (ha : EP K pn ta δ ow k1 P1) (hb : EP K pn tb δ ow k2 P2) (hr : ∀ x y, P1 x → P2 y → ∃ z, P z ∧ ∀ (Hb H : Hp) (v w : V) (Q : VK), Same Hb H → Rep K Hb v x → Rep K Hb w y → (∀ u Hn H2, Fx Hb H Hn H2 → Rep K Hn u z → Q u H2) → r v w H Q) : EP K pn (tOp r ta tb) δ ow (k1 + k2) P := fun p N H0 Hb H σ Q hN s hp hb0 pa kk => by
  refine ha p N H0 Hb H σ _ (by omega) s hp hb0 pa fun v x Hn H2 f1 pa1 r1 q1 => ?_
  refine hb p (N + k1) H0 Hn H2 σ _ (by omega) (s.fp f1 pa) hp (f1.df p hb0 pa.there) pa1 fun w y Hm H3 f2 pa2 r2 q2 => ?_
  obtain ⟨z, hz, hr⟩ := hr x y q1 q2
  refine hr Hm H3 v w Q f2.n2 (r1.mono f2.bn) r2 fun u Hk H4 f3 r3 => ?_
  exact kk u z Hk H4 ((f1.trans f2).trans (f3.fp p)) ((pa2.same f3.bn f3.s).mono (by omega)) r3 hz
theorem ep_add {PI PJ : Int → Prop} (ha : EP K pn ta δ ow k1 (fun d => ∃ i, d = .int i ∧ PI i)) (hb : EP K pn tb δ ow k2 (fun d => ∃ i, d = .int i ∧ PJ i)) (g : Int → Int → Int) (hP : ∀ i j, PI i → PJ j → P (.int (g i j))) : EP K pn (tOp (rI0 fun i j => .int (g i j)) ta tb) δ ow (k1 + k2) P :=
  ep_2 ha hb fun x y ⟨i, e1, h1⟩ ⟨j, e2, h2⟩ => ⟨.int (g i j), hP i j h1 h2, fun Hb H v w Q s r1 r2 kk => by
    rw [e1, Rep] at r1
    rw [e2, Rep] at r2
    exact ⟨i, j, r1, r2, kk _ Hb H (.refl s) rep_int⟩⟩
theorem epa_nil (h : PA []) : EPA K pn tNil δ ow k PA := fun p N H0 Hb H σ Q hN s hp hb pa kk => kk [] [] Hb H ((Fx.refl s.sm).fp p) (pa.mono (by omega)) RepL.nil h
theorem epa_cons (h : EP K pn te δ ow k1 P1) (hr : ∀ d, P1 d → EPA K pn tr δ ow k2 (fun ds => PA (d :: ds))) : EPA K pn (tCons te tr) δ ow (k1 + k2) PA := fun p N H0 Hb H σ Q hN s hp hb0 pa kk => by
  refine h p N H0 Hb H σ _ (by omega) s hp hb0 pa fun v x Hn H2 f1 pa1 r1 q1 => ?_
  refine hr x q1 p (N + k1) H0 Hn H2 σ _ (by omega) (s.fp f1 pa) hp (f1.df p hb0 pa.there) pa1 fun vs ds Hm H3 f2 pa2 r2 q2 => ?_
  exact kk (v :: vs) (x :: ds) Hm H3 (f1.trans f2) (pa2.mono (by omega)) (RepL.cons (r1.mono f2.bn) r2) q2
theorem epa_ea (h : EA K tr δ ow ds) (hP : PA ds) : EPA K pn tr δ ow k PA := fun p N H0 Hb H σ Q hN s hp hb pa kk => by
  refine h H0 Hb H σ Q s fun v Hn H2 f r => ?_
  exact kk v ds Hn H2 (f.fp p) ((pa.same f.bn f.s).mono (by omega)) r hP
theorem ep_lst (h : EPA K pn tr δ ow k PA) (hl : ∀ ds, PA ds → ds.length ≤ 100000) (hP : ∀ ds, PA ds → P (.lst ds)) : EP K pn (tLst tr) δ ow k P := fun p N H0 Hb H σ Q hN s hp hb pa kk => by
  refine h p N H0 Hb H σ _ hN s hp hb pa fun vs ds Hn H2 f1 pa1 r1 q1 => ⟨size_ok (by rw [r1.len]; exact hl ds q1), fun a ha => ?_⟩
  have f2 := Fx.new f1.n2 (.lst vs) ha
  exact kk _ (.lst ds) _ _ (f1.trans (f2.fp p)) (pa1.same f2.bn f2.s) (rep_lst upd_same (r1.mono f2.bn)) (hP ds q1)
theorem ep_tup (h : EPA K pn tr δ ow k PA) (hl : ∀ ds, PA ds → ds.length ≤ 100000) (hP : ∀ ds, PA ds → P (.tup ds)) : EP K pn (tTup tr) δ ow k P := fun p N H0 Hb H σ Q hN s hp hb pa kk => by
  refine h p N H0 Hb H σ _ hN s hp hb pa fun vs ds Hn H2 f1 pa1 r1 q1 => ⟨size_ok (by rw [r1.len]; exact hl ds q1), fun a ha => ?_⟩
  have f2 := Fx.new f1.n2 (.tup vs) ha
  exact kk _ (.tup ds) _ _ (f1.trans (f2.fp p)) (pa1.same f2.bn f2.s) (rep_tup (sqT_of upd_same) (r1.mono f2.bn)) (hP ds q1)
/-- a call that draws, the pen first -/
theorem ep_call {α : Type} {enc : α → List D} {pre : α → Prop} {add : Nat} {post : α → D → Prop} {E : XK} (h : EPA K pn tr δ ow k1 PA) (hp : ∀ ds, PA ds → ∃ a, enc a = ds ∧ pre a ∧ ∀ d, post a d → P d) : EP K pn (tCall (spP K enc pre add post) [] E (tCons (tVar pn) tr)) δ ow (k1 + add) P := fun p N H0 Hb H σ Q hN s hp0 hb pa kk => by
  refine ⟨_, hp0, ?_⟩
  refine h p N H0 Hb H σ _ (by omega) s hp0 hb pa fun vs ds Hn H2 f1 pa1 r1 q1 => ?_
  obtain ⟨a, e, h1, h2⟩ := hp ds q1
  rw [List.append_nil]
  refine ⟨p, N + k1, Hn, vs, a, rfl, f1.n2, f1.df p hb pa.there, pa1, by omega, by rw [e]; exact r1, h1, fun v d Hm H3 f2 pa2 r2 q2 => ?_⟩
  exact kk v d Hm H3 (f1.trans f2) (pa2.mono (by omega)) r2 (h2 d q2)
theorem ep_if (h : ET K tt δ ow b) (h1 : b = true → EP K pn ta δ ow k P) (h2 : b = false → EP K pn tb δ ow k P) : EP K pn (tIf tt ta tb) δ ow k P := fun p N H0 Hb H σ Q hN s hp hb pa kk => by
  refine h H0 Hb H σ _ s fun Hn H2 f1 => ?_
  have hn := f1.df p hb pa.there
  cases b with
  | true => exact iteT (h1 rfl p N H0 Hn H2 σ _ hN (s.fx f1) hp hn (pa.same f1.bn f1.s) fun v d Hm H3 f2 pa2 r2 q2 => kk v d Hm H3 ((f1.fp p).trans f2) pa2 r2 q2)
  | false => exact iteF (h2 rfl p N H0 Hn H2 σ _ hN (s.fx f1) hp hn (pa.same f1.bn f1.s) fun v d Hm H3 f2 pa2 r2 q2 => kk v d Hm H3 ((f1.fp p).trans f2) pa2 r2 q2)
theorem eps_mono (h : EPS K pn ts δ ow k1 Nx R) (hk : k1 ≤ k) : EPS K pn ts δ ow k Nx R := fun p N Hb0 H0 Hb H σ En hN fx s hp hb pa kn kr =>
  h p N Hb0 H0 Hb H σ En (by omega) fx s hp hb pa (fun δ' ow' Hb' H' σ' f' s' hp' hb' pa' n => kn δ' ow' Hb' H' σ' f' s' hp' hb' (pa'.mono (by omega)) n) (fun v d Hn H' f' pa' r' q => kr v d Hn H' f' (pa'.mono (by omega)) r' q)
theorem eps_seq (h : EPS K pn ts δ ow k1 (fun δ' ow' => EPS K pn us δ' ow' k2 Nx R) R) : EPS K pn (tSeq ts us) δ ow (k1 + k2) Nx R := fun p N Hb0 H0 Hb H σ En hN fx s hp hb pa kn kr => by
  refine h p N Hb0 H0 Hb H σ { En with nx := us En } (by omega) fx s hp hb pa (fun δ' ow' Hb' H' σ' f' s' hp' hb' pa' n => ?_) (fun v d Hn H' f' pa' r' q => kr v d Hn H' f' (pa'.mono (by omega)) r' q)
  exact n p (N + k1) Hb0 H0 Hb' H' σ' En (by omega) f' s' hp' hb' pa' (fun δ2 ow2 Hb2 H2 σ2 f2 s2 hp2 hb2 pa2 n2 => kn δ2 ow2 Hb2 H2 σ2 f2 s2 hp2 hb2 (pa2.mono (by omega)) n2) (fun v d Hn H' f' pa' r' q => kr v d Hn H' f' (pa'.mono (by omega)) r' q)
theorem eps_set {n : Nat} (he : EP K pn te δ ow k P) (h : ∀ d, P d → Nx (δ.set n (some d)) ow) (hn : n ≠ pn := by decide) (ho : offO n ow = true := by rfl) : EPS K pn (tAsg te (gName n)) δ ow k Nx R := fun p N Hb0 H0 Hb H σ En hN fx s hp hb pa kn kr => by
  refine he p N H0 Hb H σ _ hN s hp hb pa fun v d Hn H2 f1 pa1 r1 q1 => ?_
  exact kn _ ow Hn H2 _ (fx.trans f1) ((s.fp f1 pa).set r1 (offO_ok ho)) (by rw [List.getElem?_set_ne hn]; exact hp) (f1.df p hb pa.there) pa1 (h d q1)
theorem eps_ret (he : EP K pn te δ ow k P) (h : ∀ d, P d → R d) : EPS K pn (tRet te) δ ow k Nx R := fun p N Hb0 H0 Hb H σ En hN fx s hp hb pa kn kr => by
  refine he p N H0 Hb H σ _ hN s hp hb pa fun v d Hn H2 f1 pa1 r1 q1 => ?_
  exact kr v d Hn H2 (fx.trans f1) pa1 r1 (h d q1)
theorem eps_par {n m : Nat} (he : EPA K pn tr δ ow k PA) (h : ∀ ds, PA ds → ∃ d1 d2, ds = [d1, d2] ∧ Nx ((δ.set n (some d1)).set m (some d2)) ow) (hn : n ≠ pn := by decide) (hm : m ≠ pn := by decide) (ho : offO n ow = true := by rfl) (ho2 : offO m ow = true := by rfl) : EPS K pn (tPar n m tr) δ ow k Nx R := fun p N Hb0 H0 Hb H σ En hN fx s hp hb pa kn kr => by
  refine he p N H0 Hb H σ _ hN s hp hb pa fun vs ds Hn H2 f1 pa1 r1 q1 => ?_
  obtain ⟨d1, d2, e, nx⟩ := h ds q1
  rw [e] at r1
  rw [RepL] at r1
  obtain ⟨v, q, e1, e2, e3⟩ := r1
  rw [RepL] at e3
  obtain ⟨w, q2, g1, g2, g3⟩ := e3
  rw [RepL] at g3
  subst g3 g1 e1
  exact ⟨v, w, rfl, kn _ ow Hn H2 _ (fx.trans f1) (((s.fp f1 pa).set e2 (offO_ok ho)).set g2 (offO_ok ho2)) (by rw [List.getElem?_set_ne hm, List.getElem?_set_ne hn]; exact hp) (f1.df p hb pa.there) pa1 nx⟩
/-- x = []: a list of one's own -/
theorem eps_own {n : Nat} (hn : n < δ.length) (h : Nx (δ.set n none) (some (n, .l []))) (hne : n ≠ pn := by decide) : EPS K pn (tAsg (tLst tNil) (gName n)) δ none k Nx R := fun p N Hb0 H0 Hb H σ En hN fx s hp hb pa kn kr => by
  refine ⟨Nat.zero_le _, fun a ha => ?_⟩
  have hba : Hb a = none := s.sm.free ha
  have ne : a ≠ p := fun q => pa.there (by rw [← q]; exact ha)
  have h0 : H0 a = none := by
    cases q : H0 a with
    | none => rfl
    | some o => rw [fx.s a o ne q] at ha; cases ha
  refine kn _ _ Hb _ _ ⟨fx.bn, fx.n2.trans (same_new ha), fun b x q e => same_new ha _ _ (fx.s b x q e), fun _ => by rw [upd_ne ne.symm]; exact pa.there, fx.df⟩ ?_ (by rw [List.getElem?_set_ne hne]; exact hp) hb ((pa.same (Same.refl _) (same_new ha)).mono (by omega)) h
  refine ⟨s.sm.trans (same_new ha), fun i d e => ?_, by rw [List.length_set, List.length_set, s.len], fun i ds e => ?_⟩
  · by_cases q : n = i
    · subst q
      rw [List.getElem?_set_self hn] at e
      cases e
    · rw [List.getElem?_set_ne q] at e ⊢
      exact s.rep i d e
  · cases e
    exact ⟨by rw [List.getElem?_set_self hn], a, by rw [List.getElem?_set_self (by rw [← s.len]; exact hn)], h0, hba, [], upd_same, RepL.nil⟩
/-- xs.append(e) of the own list -/
theorem eps_app {n : Nat} {ds : List D} (he : EP K pn te δ (some (n, .l ds)) k P) (hl : ds.length < 100000) (h : ∀ d, P d → Nx δ (some (n, .l (ds ++ [d])))) : EPS K pn (tDrop (tBM K "list" rAppend (tVar n) (tCons te tNil))) δ (some (n, .l ds)) k Nx R := fun p N Hb0 H0 Hb H σ En hN fx s hp hb pa kn kr => by
  obtain ⟨hd, l, vs, h1, h2, h3, h4, h5⟩ := s.ownL
  refine ⟨_, h1, .inl ⟨rfl, vs, sqL_of h4⟩, ?_⟩
  refine he p N H0 Hb H σ _ hN s hp hb pa fun v d Hn H2 f1 pa1 r1 q1 => ?_
  have s2 := s.fp f1 pa
  obtain ⟨c, ns, m, lf, w1, w2, w3, w4⟩ := pa
  have ne : l ≠ p := fun q => by rw [q, w1] at h4; cases h4
  have g3 : Hn l = none := f1.df l h3 (by rw [h4]; intro z; cases z)
  have g4 : H2 l = some (.lst vs) := f1.s _ _ ne h4
  have fx2 := fx.trans f1
  have key : ∀ {G : Hp}, Same G H2 → G l = none → Same G (upd H2 l (.lst (vs ++ [v]))) := fun a g b x e => by
    rw [upd_ne (ne_of_none e g)]
    exact a b x e
  have pa2 : PenAt Hn (upd H2 l (.lst (vs ++ [v]))) p (N + k) := by
    obtain ⟨c, ns, m, lf, w1, w2, w3, w4⟩ := pa1
    exact ⟨c, ns, m, lf, by rw [upd_ne ne.symm]; exact w1, w2, w3, w4⟩
  refine ⟨l, vs, v, rfl, rfl, g4, size_lt (by rw [h5.len]; exact hl), kn δ _ Hn _ σ ⟨fx2.bn, key fx2.n2 g3, fun b x q e => ?_, fun h => ?_, fx2.df⟩ ⟨key s2.sm g3, s2.rep, s2.len, fun i ds' e => ?_⟩ hp (f1.df p hb ?_) pa2 (h d q1)⟩
  · rw [upd_ne (ne_of_none e h2)]
    exact fx2.s b x q e
  · rw [upd_ne ne.symm]
    exact fx2.t h
  · cases e
    exact ⟨hd, l, h1, h2, g3, _, upd_same, (h5.mono f1.bn).app (RepL.cons r1 RepL.nil)⟩
  · rw [w1]; intro z; cases z
end
end KX
/-! The readings of the law and its draws. Printed by gen.py. -/
namespace KX
open PySem PySem.Spec PyProof.Rows L2
abbrev rListOf (K : PySem.W.Frag) : List V → Hp → VK → Prop := fun xs H Q => ∃ p ys, xs = [.ref p] ∧ (SqL K H p ys ∨ SqT K H p ys) ∧ ∀ l, H l = none → Q (.ref l) (upd H l (.lst ys))
/-- N = 0 _law_script -/
def t__law_begin (w : World) (K : PySem.W.Frag) : TS := (tRet (tDisp [((tC (.str "cells")), (tCB (rListOf K) (tCons (tSl (rSlL K) (tVar 0) tNoPart (tPart (tC (.int 63)))) tNil))), ((tC (.str "count")), (tC (.int 0))), ((tC (.str "left")), (tC (.int 0)))]))
/-- N = 0 _law_pen 1 _law_span 2 _law_digit 3 _law_count 4 _law_cell 5 _law_first 6 _law_blend -/
def t__law_draw (w : World) (K : PySem.W.Frag) : TS := (tSeq (tIfS (tTest (tOp rGe (tDGet (tVar 0) (tC (.str "left"))) (tVar 1))) (tSeq (tAsg (tOp rMod (tCB rInt1 (tCons (tDGet (tVar 0) (tC (.str "left"))) tNil)) (tVar 1)) (gName 2))
  (tSeq (sDPut (tVar 0) (tC (.str "left")) (tOp rFdv (tDGet (tVar 0) (tC (.str "left"))) (tVar 1)))
  (tRet (tVar 2)))) tNext)
  (tSeq (tAsg (tDGet (tVar 0) (tC (.str "count"))) (gName 3))
  (tSeq (sDPut (tVar 0) (tC (.str "count")) (tOp rAdd (tVar 3) (tC (.int 1))))
  (tSeq (tAsg (tOp rAdd (tOp rMul (tC (.int 67)) (tVar 3)) (tC (.int 41))) (gName 4))
  (tSeq (tIfS (tTest (tOp (rNeD K) (tDGet (tVar 0) (tC (.str "cells"))) (tLst tNil))) (tAsg (tOp (rIxL K) (tDGet (tVar 0) (tC (.str "cells"))) (tOp rMod (tCB rInt1 (tCons (tVar 3) tNil)) (tCB (rLenQ K) (tCons (tDGet (tVar 0) (tC (.str "cells"))) tNil)))) (gName 4)) tNext)
  (tSeq (tIfS (tAnd (tTest (tOp rLt (tVar 3) (tCB (rLenQ K) (tCons (tDGet (tVar 0) (tC (.str "cells"))) tNil)))) (tTest (tOp rGe (tVar 4) (tOp rPow (tC (.int 10)) (tC (.int 18)))))) (tSeq (sDPut (tVar 0) (tC (.str "left")) (tOp rFdv (tOp rSub (tVar 4) (tOp rPow (tC (.int 10)) (tC (.int 18)))) (tVar 1)))
  (tRet (tOp rMod (tCB rInt1 (tCons (tOp rSub (tVar 4) (tOp rPow (tC (.int 10)) (tC (.int 18)))) tNil)) (tVar 1)))) tNext)
  (tSeq (tAsg (tOp rAdd (tOp rMul (tOp rMod (tCB rInt1 (tCons (tVar 4) tNil)) (tC (.int 2147482661))) (tC (.int 50021))) (tOp rMul (tOp rMul (tC (.int 31013)) (tVar 3)) (tVar 3))) (gName 5))
  (tSeq (tAsg (tOp rMod (tCB rInt1 (tCons (tOp rAdd (tOp rAdd (tVar 5) (tOp rMul (tC (.int 113)) (tVar 3))) (tC (.int 59))) tNil)) (tC (.int 2147482763))) (gName 6))
  (tSeq (tAsg (tOp rMod (tCB rInt1 (tCons (tOp rMul (tVar 6) (tOp rAdd (tVar 6) (tC (.int 81001)))) tNil)) (tC (.int 2147482811))) (gName 6))
  (tRet (tOp rMod (tCB rInt1 (tCons (tOp rFdv (tOp rMod (tCB rInt1 (tCons (tOp rAdd (tOp rMul (tVar 6) (tVar 6)) (tOp rMul (tC (.int 29)) (tVar 6))) tNil)) (tC (.int 2147482873))) (tC (.int 64))) tNil)) (tVar 1))))))))))))
/-- N = 0 _law_pen 1 _law_some -/
def t__law_pick (w : World) (K : PySem.W.Frag) : TS := (tRet (tOp (rIxL K) (tVar 1) (tCall (sp__law_draw K) [] E0 (tCons (tVar 0) (tCons (tCB (rLenQ K) (tCons (tVar 1) tNil)) tNil)))))
/-- N = 0 _law_number -/
def t__law_ten (w : World) (K : PySem.W.Frag) : TS := (tRet (tCB rIntS (tCons (tOp rCatS (tC (.str "1")) (tOp rZer (tC (.str "0")) (tVar 0))) tNil)))
/-- N = 0 _law_pen 1 _law_most 2 _law_many 3 _law_small -/
def t__law_size (w : World) (K : PySem.W.Frag) : TS := (tSeq (tPar 2 3 (tCons (tCall (sp__law_draw K) [] E0 (tCons (tVar 0) (tCons (tVar 1) tNil))) (tCons (tOp rAdd (tC (.int 1)) (tCall (sp__law_draw K) [] E0 (tCons (tVar 0) (tCons (tC (.int 6)) tNil)))) tNil)))
  (tRet (tCall (sp__law_pick K) [] E0 (tCons (tVar 0) (tCons (tLst (tCons (tC (.int 1)) (tCons (tC (.int 2)) (tCons (tVar 3) (tCons (tVar 3) (tCons (tOp rAdd (tC (.int 1)) (tCall (sp__law_draw K) [] E0 (tCons (tVar 0) (tCons (tC (.int 40)) tNil)))) (tCons (tOp rAdd (tCall (sp__law_ten K) [] E0 (tCons (tVar 2) tNil)) (tCall (sp__law_draw K) [] E0 (tCons (tVar 0) (tCons (tC (.int 99)) tNil)))) tNil))))))) tNil)))))
/-- N = 0 _law_pen 1 _law_manner 2 _law_found 3 _law_k 4 _law_units 5 _law_sign -/
def t__law_entries (w : World) (K : PySem.W.Frag) : TS := (tSeq (tAsg (tLst tNil) (gName 2))
  (tSeq (tFor (iRng1 (tCons (tOp rAdd (tC (.int 1)) (tCall (sp__law_draw K) [] E0 (tCons (tVar 0) (tCons (tC (.int 3)) tNil)))) tNil)) (gName 3) (tSeq (tAsg (tCall (sp__law_pick K) [] E0 (tCons (tVar 0) (tCons (tLst (tCons (tC (.int 5)) (tCons (tC (.int 15)) (tCons (tC (.int 10)) (tCons (tC (.int 20)) (tCons (tC (.int 3)) (tCons (tC (.int 25)) (tCons (tC (.int 0)) (tCons (tC (.int 12)) tNil))))))))) tNil))) (gName 4))
  (tSeq (tAsg (tIf (tTest (tOp (rIn K false) (tVar 1) (tTup (tCons (tC (.str "halfeven")) (tCons (tC (.str "floor")) (tCons (tC (.str "halfup")) tNil)))))) (tCall (sp__law_pick K) [] E0 (tCons (tVar 0) (tCons (tLst (tCons (tC (.int 1)) (tCons (tUn rNeg (tC (.int 1))) tNil))) tNil))) (tC (.int 1))) (gName 5))
  (tDrop (tBM K "list" rAppend (tVar 2) (tCons (tTup (tCons (tMake (cW K) (spWI K) [] E0 (tCons (tOp rMul (tVar 5) (tVar 4)) (tCons (tC (.int 1)) tNil))) (tCons (tCall (sp__law_pick K) [] E0 (tCons (tVar 0) (tCons (tLst (tCons (tC (.int 0)) (tCons (tC (.int 1)) (tCons (tC (.int 2)) (tCons (tCall (sp__law_draw K) [] E0 (tCons (tVar 0) (tCons (tC (.int 9)) tNil))) (tCons (tCall (sp__law_size K) [] E0 (tCons (tVar 0) (tCons (tC (.int 40)) tNil))) tNil)))))) tNil))) tNil))) tNil))))))
  (tRet (tVar 2))))
/-- N = 0 _law_script 1 _law_pen 2 _law_manner 3 _law_entries_here 4 _law_deal 5 _law_running 6 _law_orders 7 _law_low 8 _law_high 9 _law_many 10 _law_alone 11 _law_entry -/
def t_law (w : World) (K : PySem.W.Frag) : TS := (tSeq (tAsg (tCall (sp__law_begin K) [] E0 (tCons (tVar 0) tNil)) (gName 1))
  (tSeq (tAsg (tCall (sp__law_pick K) [] E0 (tCons (tVar 1) (tCons (tLst (tCons (tC (.str "halfeven")) (tCons (tC (.str "halfeven")) (tCons (tC (.str "halfeven")) (tCons (tC (.str "floor")) (tCons (tC (.str "halfup")) (tCons (tC (.str "cut")) (tCons (tC (.str "halfaway")) tNil)))))))) tNil))) (gName 2))
  (tSeq (tAsg (tCall (sp__law_entries K) [] E0 (tCons (tVar 1) (tCons (tVar 2) tNil))) (gName 3))
  (tSeq (tAsg (tMake (cD K) (spDI K) [] E0 (tCons (tCall (sp__law_size K) [] E0 (tCons (tVar 1) (tCons (tC (.int 20)) tNil))) (tCons (tCall (sp__law_size K) [] E0 (tCons (tVar 1) (tCons (tC (.int 20)) tNil))) (tCons (tOp rSub (tCall (sp__law_draw K) [] E0 (tCons (tVar 1) (tCons (tC (.int 50)) tNil))) (tC (.int 20))) tNil)))) (gName 4))
  (tSeq (tPar 5 6 (tCons (tCall (sp_running_total K) [] E0 (tCons (tVar 3) (tCons (tC (.int 0)) (tCons (tVar 2) tNil)))) (tCons (tCall (sp_order_range K) [] E0 (tCons (tVar 3) (tCons (tC (.int 0)) (tCons (tVar 2) tNil)))) tNil)))
  (tSeq (tAsg (tCall (sp__law_ends K) [] E0 (tCons (tVar 3) (tCons (tVar 2) (tCons (tFld K (tVar 4) "houses") tNil)))) (gTup K 2 (gCons (gName 7) (gCons (gName 8) gNil))))
  (tSeq (tIfS (tOr (tNot (tB (tCall (sp__law_rising K) [] E0 (tCons (tLst (tCons (tOp (rIxT K) (tVar 6) (tC (.int 0))) (tCons (tVar 5) (tCons (tOp (rIxT K) (tVar 6) (tC (.int 1))) tNil)))) tNil)))) (tNot (tB (tCall (sp__law_giving_right K) [] E0 (tCons (tVar 3) (tCons (tVar 2) (tCons (tFld K (tVar 4) "houses") tNil))))))) (tRet (tC (.bl false))) tNext)
  (tSeq (tIfS (tNot (tB (tCall (sp__law_shifts_right K) [] E0 (tCons (tVar 3) (tCons (tVar 4) (tCons (tVar 2) (tCons (tVar 7) (tCons (tVar 8) tNil)))))))) (tRet (tC (.bl false))) tNext)
  (tSeq (tIfS (tOr (tTest (tOp (rNeTW K) (tCall (sp__law_ends K) [] E0 (tCons (tVar 3) (tCons (tVar 2) (tCons (tC (.int 1)) tNil)))) (tTup (tCons (tVar 5) (tCons (tVar 5) tNil))))) (tTest (tOp (rNeWt K) (tCall (sp_dealt_total K) [] E0 (tCons (tVar 3) (tCons (tMake (cD K) (spDI K) [.int 0] E0 (tCons (tC (.int 5)) (tCons (tC (.int 1)) tNil))) (tCons (tC (.int 0)) (tCons (tVar 2) tNil))))) (tVar 5)))) (tRet (tC (.bl false))) tNext)
  (tSeq (tPar 9 10 (tCons (tCB (rSum K) (tCons (tLc (iList K (tVar 3)) (gName 11) tYes (tOp (rIxT K) (tVar 11) (tC (.int 1))) [11]) tNil)) (tCons (tCall (sp_single_total K) [] E0 (tCons (tVar 3) (tCons (tC (.int 0)) (tCons (tVar 2) tNil)))) tNil)))
  (tSeq (tIfS (tOr (tTest (tOp (rNeWt K) (tCall (sp_dealt_total K) [] E0 (tCons (tVar 3) (tCons (tMake (cD K) (spDI K) [.int 0] E0 (tCons (tC (.int 1)) (tCons (tOp rAdd (tVar 9) (tC (.int 1))) tNil))) (tCons (tC (.int 0)) (tCons (tVar 2) tNil))))) (tVar 10))) (tNot (tB (tCall (sp__law_rising K) [] E0 (tCons (tLst (tCons (tVar 7) (tCons (tVar 8) tNil))) tNil))))) (tRet (tC (.bl false))) tNext)
  (tRet (tOrV (tNotV (tCall (sp_is_free K) [] E0 (tCons (tVar 3) (tCons (tC (.int 0)) (tCons (tVar 2) tNil))))) (tOp (rEqTW K) (tTup (tCons (tVar 7) (tCons (tVar 8) (tCons (tVar 10) tNil)))) (tTup (tCons (tVar 5) (tCons (tVar 5) (tCons (tVar 5) tNil))))))))))))))))))
end KX
/-! The draws keep their promises. -/
namespace KX
open PySem PySem.Spec PyProof.Rows L2
/-! ### values in a settled state -/
def IV (te : TE) (σ : L2.St) (H : Hp) (v : V) : Prop := ∀ Q : VK, Q v H → te σ H Q
section
variable {K : PySem.W.Frag} {σ : L2.St} {H : Hp} {ta tb te : TE} {v : V} {i j : Int}
theorem iv_var {n : Nat} (h : σ[n]? = some (some v) := by rfl) : IV (tVar n) σ H v := fun Q q => ⟨v, h, q⟩
theorem iv_c : IV (tC v) σ H v := fun Q q => q
theorem iv_0 {g : Int → Int → V} (ha : IV ta σ H (.int i)) (hb : IV tb σ H (.int j)) : IV (tOp (rI0 g) ta tb) σ H (g i j) := fun Q q => ha _ (hb _ ⟨i, j, rfl, rfl, q⟩)
theorem iv_I {C : Int → Int → Prop} {g : Int → Int → V} (ha : IV ta σ H (.int i)) (hb : IV tb σ H (.int j)) (hc : C i j) : IV (tOp (rI C g) ta tb) σ H (g i j) := fun Q q => ha _ (hb _ ⟨i, j, rfl, rfl, hc, q⟩)
theorem iv_int (ha : IV ta σ H (.int i)) : IV (tCB rInt1 (tCons ta tNil)) σ H (.int i) := fun Q q => ha _ (.inl ⟨i, rfl, q⟩)
theorem iv_get {p : Addr} {kvs : List (Key × V)} {k : Str} (ha : IV ta σ H (.ref p)) (h : H p = some (.dK kvs)) (hv : valV kvs (.inr k) = some v) : IV (tDGet ta (tC (.str k))) σ H v := fun Q q => ha _ ⟨p, v, rfl, by
  have := DGet.k (k := .inr k) h
  rw [hv] at this
  exact this, q⟩
theorem iv_len {a : Addr} {xs : List V} (ha : IV ta σ H (.ref a)) (h : H a = some (.lst xs)) : IV (tCB (rLenQ K) (tCons ta tNil)) σ H (.int xs.length) := fun Q q => ha _ ⟨a, xs, rfl, .inl (sqL_of h), q⟩
theorem iv_ix {a : Addr} {xs : List V} (ha : IV ta σ H (.ref a)) (h : H a = some (.lst xs)) (hb : IV tb σ H (.int i)) (e : atI xs i = some v) : IV (tOp (rIxL K) ta tb) σ H v := fun Q q => ha _ (hb _ ⟨a, xs, i, v, rfl, rfl, sqL_of h, e, q⟩)
theorem iv_is {v' : V} (h : IV te σ H v) (e : v = v') : IV te σ H v' := e ▸ h
end
theorem pen_cells {c : Addr} {n l : Int} : valV [((.inr "cells" : Key), V.ref c), ((.inr "count" : Key), V.int n), ((.inr "left" : Key), V.int l)] (.inr "cells") = some (.ref c) := by rfl
theorem pen_count {c : Addr} {n l : Int} : valV [((.inr "cells" : Key), V.ref c), ((.inr "count" : Key), V.int n), ((.inr "left" : Key), V.int l)] (.inr "count") = some (.int n) := by rfl
theorem pen_left {c : Addr} {n l : Int} : valV [((.inr "cells" : Key), V.ref c), ((.inr "count" : Key), V.int n), ((.inr "left" : Key), V.int l)] (.inr "left") = some (.int l) := by rfl
theorem put_count {c : Addr} {n l m : Int} : putK [((.inr "cells" : Key), V.ref c), ((.inr "count" : Key), V.int n), ((.inr "left" : Key), V.int l)] (.inr "count") (.int m) = [((.inr "cells" : Key), V.ref c), ((.inr "count" : Key), V.int m), ((.inr "left" : Key), V.int l)] := by rfl
theorem put_left {c : Addr} {n l m : Int} : putK [((.inr "cells" : Key), V.ref c), ((.inr "count" : Key), V.int n), ((.inr "left" : Key), V.int l)] (.inr "left") (.int m) = [((.inr "cells" : Key), V.ref c), ((.inr "count" : Key), V.int n), ((.inr "left" : Key), V.int m)] := by rfl
section
variable {w : World} {K : PySem.W.Frag} {σ : L2.St} {H : Hp} {ta tv : TE} {c p : Addr} {n l m : Int} {D : Ends}
/-- the state of the pen told -/
theorem put_at {k : Str} {kvs : List (Key × V)} {v : V} (hv : IV tv σ H v) (ha : IV ta σ H (.ref p)) (h : H p = some (.dK kvs)) (hl : kvs.length < 100 := by simp) (q : D.nx σ (upd H p (.dK (putK kvs (.inr k) v)))) : sDPut ta (tC (.str k)) tv D σ H :=
  hv _ (ha _ ⟨p, _, rfl, DPut.k (k := .inr k) h (size_lt (by omega)), q⟩)
theorem upd_twice (a : Addr) (x y : HO) : upd (upd H a x) a y = upd H a y := by
  funext b
  by_cases q : b = a
  · rw [q, upd_same, upd_same]
  · rw [upd_ne q, upd_ne q, upd_ne q]
/-- the pen changed, all else as before -/
theorem fp_pen {Hb : Hp} {o : HO} (s : Same Hb H) (hb : Hb p = none) : Fp p Hb H Hb (upd H p o) :=
  ⟨Same.refl _, fun b x e => by rw [upd_ne (ne_of_none e hb)]; exact s b x e, fun b x q e => by rw [upd_ne q]; exact e, fun _ => (by rw [upd_same]; intro z; cases z), fun _ h _ => h⟩
theorem mod_rng {x y : Int} (h : 0 < y) : 0 ≤ x % y ∧ x % y < y := ⟨Int.emod_nonneg x (by omega), Int.emod_lt_of_pos x h⟩
end
theorem int_lay : ∀ ns : List Int, PyData.canLayAll0 (ns.map PyData.int) = true
  | [] => by simp [PyData.canLayAll0]
  | n :: r => by simp [PyData.canLayAll0, PyData.canLay0, int_lay r]
theorem int_depth : ∀ ns : List Int, PyData.depthAll (ns.map PyData.int) = 0
  | [] => by simp [PyData.depthAll]
  | n :: r => by simp [PyData.depthAll, PyData.depth, int_depth r]
theorem int_shape (ns : List Int) : SeqAt.shaped (.list (ns.map PyData.int)) = true := by
  simp [SeqAt.shaped, PyData.canLay0, PyData.depth, int_lay, int_depth]
theorem int_none (ns : List Int) : PyData.eqv (.list (ns.map PyData.int)) (.list []) = ns.isEmpty := by
  cases ns <;> simp [PyData.eqv, PyData.eqvAll]
theorem dp_ints {K : PySem.W.Frag} {H : Hp} : ∀ ns : List Int, DpAll K H (ns.map V.int) (ns.map PyData.int)
  | [] => .nil
  | n :: r => .cons (.int n) (dp_ints r)
theorem int_at {ns : List Int} (n : Nat) (h : ns ≠ []) : ∃ z, atI (ns.map V.int) ((n : Int) % ((ns.map V.int).length : Int)) = some (.int z) := by
  rw [List.length_map]
  have hl : 0 < ns.length := List.length_pos_iff.mpr h
  have m := mod_rng (x := (n : Int)) (show (0 : Int) < (ns.length : Int) by omega)
  obtain ⟨k, hk⟩ := Int.eq_ofNat_of_zero_le m.1
  have hk2 : k < ns.length := by omega
  refine ⟨ns[k], ?_⟩
  rw [hk]
  exact atI_nat (by rw [List.getElem?_map, List.getElem?_eq_getElem hk2]; rfl)
theorem l__law_draw {w : World} {K : PySem.W.Frag} (vs : List V) (H : Hp) (Q : VK) (E : XK) (h : sp__law_draw K vs H Q E) : t__law_draw w K { nx := fun _ H' => Q .non H', rt := Q } (L2.start ["_law_pen", "_law_span", "_law_digit", "_law_count", "_law_cell", "_law_first", "_law_blend"] vs) H := by
  obtain ⟨p, N, Hb, rest, sp, rfl, s, hb, pa, hN, r, ⟨s0, s1⟩, kk⟩ := h
  have r1 : RepL K Hb rest [D.int sp] := r
  obtain ⟨v, rfl, r2⟩ := repl1 r1
  have r2 : v = .int sp := by rw [Rep] at r2; exact r2
  subst r2
  obtain ⟨c, ns, n, l, hp, hc, h63, hn⟩ := pa
  have fin : ∀ (H' : Hp) (n' : Nat) (l' : Int) (z : Int), Fp p Hb H Hb H' → H' p = some (penO c n' l') → n' ≤ N + 1 → 0 ≤ z → z < sp → Q (.int z) H' := fun H' n' l' z f e1 e2 z0 z1 =>
    kk (.int z) (.int z) Hb H' f ⟨c, ns, n', l', e1, hc, h63, e2⟩ rep_int ⟨z, rfl, z0, z1⟩
  have hpen : ∀ {σ : L2.St} {H' : Hp}, σ[0]? = some (some (.ref p)) → IV (tVar 0) σ H' (.ref p) := fun e => iv_var e
  unfold t__law_draw
  show tIfS _ _ _ _ _ _
  have bspan : sp.natAbs < 2 ^ 9000 := small_ok (show sp.natAbs < 2 ^ 10 by omega)
  refine (iv_0 (g := fun i j => .bl (decide (j ≤ i))) (iv_get (hpen rfl) hp pen_left) iv_var) _ ⟨_, rfl, ?_⟩
  by_cases c1 : sp ≤ l
  · rw [decide_eq_true c1]
    refine iteT ?_
    show tAsg _ _ _ _ _
    refine (iv_I (C := fun _ j => 0 < j) (g := fun i j => .int (i % j)) (iv_int (iv_get (hpen rfl) hp pen_left)) iv_var s0) _ ?_
    refine put_at (iv_I (C := CDivW) (g := fun i j => .int (i / j)) (iv_get (hpen rfl) hp pen_left) (iv_var (v := .int sp)) (divW_ok s0 bspan)) (hpen rfl) hp (q := ?_)
    rw [put_left]
    have m := mod_rng (x := l) s0
    exact ⟨_, rfl, fin _ n _ _ (fp_pen s hb) upd_same (by omega) m.1 m.2⟩
  · rw [decide_eq_false c1]
    refine iteF ?_
    show tSeq _ _ _ _ _
    refine (iv_get (hpen rfl) hp pen_count) _ ?_
    refine put_at (iv_0 (g := fun i j => .int (i + j)) iv_var iv_c) (hpen rfl) hp (q := ?_)
    rw [put_count]
    have bn : (n : Int).natAbs < 2 ^ 10 := by omega
    have h1 : upd H p (penO c ((n : Int) + 1) l) p = some (penO c ((n : Int) + 1) l) := upd_same
    have f1 : Fp p Hb H Hb (upd H p (penO c ((n : Int) + 1) l)) := fp_pen s hb
    refine (iv_0 (g := fun i j => .int (i + j)) (iv_I (C := CMulW) (g := fun i j => .int (i * j)) iv_c iv_var (mul_ok (lit_ok (n := 10)) bn)) iv_c) _ ?_
    -- the tail, by any cell
    have tail : ∀ (H' : Hp) (z : Int), Fp p Hb H Hb H' → H' p = some (penO c ((n : Int) + 1) l) →
        tSeq (tIfS (tAnd (tTest (tOp rLt (tVar 3) (tCB (rLenQ K) (tCons (tDGet (tVar 0) (tC (.str "cells"))) tNil)))) (tTest (tOp rGe (tVar 4) (tOp rPow (tC (.int 10)) (tC (.int 18)))))) (tSeq (sDPut (tVar 0) (tC (.str "left")) (tOp rFdv (tOp rSub (tVar 4) (tOp rPow (tC (.int 10)) (tC (.int 18)))) (tVar 1)))
          (tRet (tOp rMod (tCB rInt1 (tCons (tOp rSub (tVar 4) (tOp rPow (tC (.int 10)) (tC (.int 18)))) tNil)) (tVar 1)))) tNext)
          (tSeq (tAsg (tOp rAdd (tOp rMul (tOp rMod (tCB rInt1 (tCons (tVar 4) tNil)) (tC (.int 2147482661))) (tC (.int 50021))) (tOp rMul (tOp rMul (tC (.int 31013)) (tVar 3)) (tVar 3))) (gName 5))
          (tSeq (tAsg (tOp rMod (tCB rInt1 (tCons (tOp rAdd (tOp rAdd (tVar 5) (tOp rMul (tC (.int 113)) (tVar 3))) (tC (.int 59))) tNil)) (tC (.int 2147482763))) (gName 6))
          (tSeq (tAsg (tOp rMod (tCB rInt1 (tCons (tOp rMul (tVar 6) (tOp rAdd (tVar 6) (tC (.int 81001)))) tNil)) (tC (.int 2147482811))) (gName 6))
          (tRet (tOp rMod (tCB rInt1 (tCons (tOp rFdv (tOp rMod (tCB rInt1 (tCons (tOp rAdd (tOp rMul (tVar 6) (tVar 6)) (tOp rMul (tC (.int 29)) (tVar 6))) tNil)) (tC (.int 2147482873))) (tC (.int 64))) tNil)) (tVar 1))))))
          { nx := fun _ H' => Q .non H', rt := Q } [some (.ref p), some (.int sp), none, some (.int n), some (.int z), none, none] H' := by
      intro H' z f' hp'
      have sm' : Same Hb H' := f'.n2
      have hc' : H' c = some (.lst (ns.map V.int)) := sm' _ _ hc
      have p18 : ((10 : Int) ^ (18 : Int).toNat) = 1000000000000000000 := by decide
      have ten : IV (tOp rPow (tC (.int 10)) (tC (.int 18))) [some (.ref p), some (.int sp), none, some (.int n), some (.int z), none, none] H' (.int 1000000000000000000) :=
        iv_is (iv_I (C := CPow) (g := fun i j => .int (i ^ j.toNat)) iv_c iv_c ⟨by decide, by decide, by decide⟩) (by rw [p18])
      have blend : (tSeq (tAsg (tOp rAdd (tOp rMul (tOp rMod (tCB rInt1 (tCons (tVar 4) tNil)) (tC (.int 2147482661))) (tC (.int 50021))) (tOp rMul (tOp rMul (tC (.int 31013)) (tVar 3)) (tVar 3))) (gName 5))
          (tSeq (tAsg (tOp rMod (tCB rInt1 (tCons (tOp rAdd (tOp rAdd (tVar 5) (tOp rMul (tC (.int 113)) (tVar 3))) (tC (.int 59))) tNil)) (tC (.int 2147482763))) (gName 6))
          (tSeq (tAsg (tOp rMod (tCB rInt1 (tCons (tOp rMul (tVar 6) (tOp rAdd (tVar 6) (tC (.int 81001)))) tNil)) (tC (.int 2147482811))) (gName 6))
          (tRet (tOp rMod (tCB rInt1 (tCons (tOp rFdv (tOp rMod (tCB rInt1 (tCons (tOp rAdd (tOp rMul (tVar 6) (tVar 6)) (tOp rMul (tC (.int 29)) (tVar 6))) tNil)) (tC (.int 2147482873))) (tC (.int 64))) tNil)) (tVar 1))))))
          { nx := fun _ H' => Q .non H', rt := Q } [some (.ref p), some (.int sp), none, some (.int n), some (.int z), none, none] H' := by
        have m0 := mod_rng (x := z) (show (0 : Int) < 2147482661 by decide)
        have b31 : ((31013 : Int) * (n : Int)).natAbs < 2 ^ 30 := by omega
        refine (iv_0 (g := fun i j => .int (i + j)) (iv_I (C := CMulW) (g := fun i j => .int (i * j)) (iv_I (C := fun _ j => 0 < j) (g := fun i j => .int (i % j)) (iv_int (iv_var (v := .int z))) iv_c (by decide)) iv_c (mul_ok (show (z % 2147482661).natAbs < 2 ^ 32 by omega) (b := 17) (by decide)))
          (iv_I (C := CMulW) (g := fun i j => .int (i * j)) (iv_I (C := CMulW) (g := fun i j => .int (i * j)) iv_c (iv_var (v := .int n)) (mul_ok (a := 16) (by decide) bn)) (iv_var (v := .int n)) (mul_ok b31 bn))) _ ?_
        refine (iv_I (C := fun _ j => 0 < j) (g := fun i j => .int (i % j)) (iv_int (iv_0 (g := fun i j => .int (i + j)) (iv_0 (g := fun i j => .int (i + j)) (iv_var (v := .int _)) (iv_I (C := CMulW) (g := fun i j => .int (i * j)) iv_c (iv_var (v := .int n)) (mul_ok (a := 16) (by decide) bn))) iv_c)) iv_c (by decide)) _ ?_
        generalize hB : (z % 2147482661 * 50021 + 31013 * (n : Int) * (n : Int) + 113 * (n : Int) + 59) % 2147482763 = B
        have mB := mod_rng (x := (z % 2147482661 * 50021 + 31013 * (n : Int) * (n : Int) + 113 * (n : Int) + 59)) (show (0 : Int) < 2147482763 by decide)
        rw [hB] at mB
        refine (iv_I (C := fun _ j => 0 < j) (g := fun i j => .int (i % j)) (iv_int (iv_I (C := CMulW) (g := fun i j => .int (i * j)) (iv_var (v := .int B)) (iv_0 (g := fun i j => .int (i + j)) (iv_var (v := .int B)) iv_c) (mul_ok (show B.natAbs < 2 ^ 32 by omega) (show (B + 81001).natAbs < 2 ^ 33 by omega)))) iv_c (by decide)) _ ?_
        generalize hC : B * (B + 81001) % 2147482811 = C
        have mC := mod_rng (x := B * (B + 81001)) (show (0 : Int) < 2147482811 by decide)
        rw [hC] at mC
        have bC : C.natAbs < 2 ^ 32 := by omega
        refine (iv_I (C := fun _ j => 0 < j) (g := fun i j => .int (i % j)) (iv_int (iv_I (C := CDivW) (g := fun i j => .int (i / j)) (iv_I (C := fun _ j => 0 < j) (g := fun i j => .int (i % j)) (iv_int (iv_0 (g := fun i j => .int (i + j)) (iv_I (C := CMulW) (g := fun i j => .int (i * j)) (iv_var (v := .int C)) (iv_var (v := .int C)) (mul_ok bC bC)) (iv_I (C := CMulW) (g := fun i j => .int (i * j)) iv_c (iv_var (v := .int C)) (mul_ok (lit_ok (n := 10)) bC)))) iv_c (by decide)) iv_c (divW_ok (by decide) (lit_ok)))) (iv_var (v := .int sp)) s0) _ ?_
        have m := mod_rng (x := (C * C + 29 * C) % 2147482873 / 64) s0
        exact fin H' (n + 1) l _ f' (by rw [hp']; rfl) (by omega) m.1 m.2
      refine (iv_0 (g := fun i j => .bl (decide (i < j))) (iv_var (v := .int n)) (iv_len (iv_get (iv_var (v := .ref p)) hp' pen_cells) hc')) _ ⟨_, rfl, ?_⟩
      cases hd : decide ((n : Int) < ((ns.map V.int).length : Int))
      · refine iteF ?_
        refine iteF ?_
        exact blend
      · refine iteT ?_
        refine (iv_0 (g := fun i j => .bl (decide (j ≤ i))) (iv_var (v := .int z)) ten) _ ⟨_, rfl, ?_⟩
        cases hz : decide ((1000000000000000000 : Int) ≤ z)
        · refine iteF ?_
          exact blend
        · refine iteT ?_
          refine put_at (iv_I (C := CDivW) (g := fun i j => .int (i / j)) (iv_0 (g := fun i j => .int (i - j)) (iv_var (v := .int z)) ten) (iv_var (v := .int sp)) (divW_ok s0 bspan)) (iv_var (v := .ref p)) hp' (q := ?_)
          rw [put_left]
          have ten2 : ∀ H'', IV (tOp rPow (tC (.int 10)) (tC (.int 18))) [some (.ref p), some (.int sp), none, some (.int n), some (.int z), none, none] H'' (.int 1000000000000000000) := fun H'' =>
            iv_is (iv_I (C := CPow) (g := fun i j => .int (i ^ j.toNat)) iv_c iv_c ⟨by decide, by decide, by decide⟩) (by rw [p18])
          refine (iv_I (C := fun _ j => 0 < j) (g := fun i j => .int (i % j)) (iv_int (iv_0 (g := fun i j => .int (i - j)) (iv_var (v := .int z)) (ten2 _))) (iv_var (v := .int sp)) s0) _ ?_
          have m := mod_rng (x := z - 1000000000000000000) s0
          have pc : Hb p = none := hb
          exact fin _ (n + 1) ((z - 1000000000000000000) / sp) _ (f'.trans (fp_pen f'.n2 hb)) upd_same (by omega) m.1 m.2
    refine (iv_get (iv_var (v := .ref p)) h1 pen_cells) _ ⟨Nat.zero_le _, fun q hq => ?_⟩
    have nqp : q ≠ p := fun e => by rw [e, upd_same] at hq; cases hq
    have f2 : Fp p Hb H Hb (upd (upd H p (penO c ((n : Int) + 1) l)) q (.lst [])) := f1.trans ((Fx.mk (Same.refl _) (f1.n2.trans (same_new hq)) (same_new hq) (fun _ h _ => h)).fp p)
    have hp2 : upd (upd H p (penO c ((n : Int) + 1) l)) q (.lst []) p = some (penO c ((n : Int) + 1) l) := by rw [upd_ne nqp.symm]; exact h1
    have hc2 : upd (upd H p (penO c ((n : Int) + 1) l)) q (.lst []) c = some (.lst (ns.map V.int)) := f2.n2 _ _ hc
    refine ⟨.list (ns.map PyData.int), .list [], .lst (sqL_of hc2) (dp_ints ns), .lst (sqL_of upd_same) .nil, int_shape ns, int_shape [], _, rfl, ?_⟩
    rw [int_none]
    cases he : ns.isEmpty
    · refine iteT ?_
      have hne : ns ≠ [] := fun e => by rw [e] at he; cases he
      obtain ⟨z, hz⟩ := int_at n hne
      refine (iv_ix (iv_get (iv_var (v := .ref p)) hp2 pen_cells) hc2 (iv_I (C := fun _ j => 0 < j) (g := fun i j => .int (i % j)) (iv_int (iv_var (v := .int n))) (iv_len (iv_get (iv_var (v := .ref p)) hp2 pen_cells) hc2) ?_) hz) _ ?_
      · rw [List.length_map]
        have := List.length_pos_iff.mpr hne
        omega
      · exact tail _ z f2 hp2
    · refine iteF ?_
      exact tail _ _ f2 hp2
end KX
/-! The draws keep their promises: begin, ten, pick, size, entries. -/
namespace KX
open PySem PySem.Spec PyProof.Rows L2
theorem l__law_begin {w : World} {K : PySem.W.Frag} (vs : List V) (H : Hp) (Q : VK) (E : XK) (h : sp__law_begin K vs H Q E) : t__law_begin w K { nx := fun _ H' => Q .non H', rt := Q } (L2.start ["_law_script"] vs) H := by
  obtain ⟨l, ns, Hb, rfl, s, hl, kk⟩ := h
  unfold t__law_begin
  show tDisp _ _ _ _
  intro p hp
  have hlH : SqL K (upd H p (.dK [])) l (ns.map V.int) := (same_new hp).seq (s.seq hl)
  refine ⟨.ref l, rfl, ?_⟩
  refine ⟨_, rfl, ?_⟩
  obtain ⟨ms, hms, ems⟩ : ∃ ms : List Int, ms.length ≤ 63 ∧ cutV (ns.map V.int) none (some 63) = ms.map V.int := by
    refine ⟨(ns.drop (HT.sIx (ns.map V.int).length 0 none)).take (HT.sIx (ns.map V.int).length (ns.map V.int).length (some 63) - HT.sIx (ns.map V.int).length 0 none), ?_, ?_⟩
    · refine Nat.le_trans (List.length_take_le _ _) ?_
      have : HT.sIx (ns.map V.int).length (ns.map V.int).length (some 63) = min 63 (ns.map V.int).length := rfl
      omega
    · unfold cutV
      rw [List.map_take, List.map_drop]
  refine ⟨l, _, rfl, hlH, fun q hq => ?_⟩
  refine ⟨q, _, rfl, .inl (sqL_of upd_same), fun c hc => ?_⟩
  rw [ems] at hc ⊢
  have q0 : H q = none := by
    by_cases e : q = p
    · rw [e]; exact hp
    · rw [upd_ne e] at hq; exact hq
  have nqp : q ≠ p := fun e => by rw [e, upd_same] at hq; cases hq
  have ncq : c ≠ q := fun e => by rw [e, upd_same] at hc; cases hc
  rw [upd_ne ncq] at hc
  have ncp : c ≠ p := fun e => by rw [e, upd_same] at hc; cases hc
  rw [upd_ne ncp] at hc
  refine ⟨?_, [((.inr "cells" : Key), V.ref c), ((.inr "count" : Key), V.int 0), ((.inr "left" : Key), V.int 0)], rfl, by simp, ?_⟩
  · rw [upd_ne ncp.symm, upd_ne nqp.symm, upd_same]
  · have hbp : Hb p = none := s.free hp
    have hbc : Hb c = none := s.free hc
    have keep : ∀ b x, H b = some x → upd (upd (upd (upd H p (.dK [])) q (.lst (ms.map V.int))) c (.lst (ms.map V.int))) p (penO c 0 0) b = some x := fun b x e => by
      rw [upd_ne (ne_of_none e hp), upd_ne (ne_of_none e hc), upd_ne (ne_of_none e q0), upd_ne (ne_of_none e hp)]
      exact e
    refine kk p (upd Hb c (.lst (ms.map V.int))) _ ⟨same_new hbc, fun b x e => ?_, keep, fun b e1 e2 => ?_⟩ hp (by rw [upd_ne ncp.symm]; exact hbp) ⟨c, ms, 0, 0, upd_same, upd_same, hms, Nat.le_refl _⟩
    · by_cases z : b = c
      · rw [z, upd_same] at e
        rw [z, upd_ne ncp, upd_same]
        exact e
      · rw [upd_ne z] at e
        exact keep b x (s b x e)
    · have z : b ≠ c := fun z => e2 (by rw [z]; exact hc)
      rw [upd_ne z]
      exact e1
theorem l__law_ten {w : World} {K : PySem.W.Frag} {i : Int} (h0 : 0 ≤ i ∧ i < 40) : ES K (t__law_ten w K) [some (.int i)] none (fun _ _ => False) (fun d => d = .int ((10 ^ i.toNat : Nat) : Int)) := by
  obtain ⟨k, rfl⟩ := Int.eq_ofNat_of_zero_le h0.1
  exact es_ret (ed_ten (n := k) (by omega) (ed_var rfl)) rfl
/-- a body that draws, from a promise -/
theorem fnP_run {α : Type} {K : PySem.W.Frag} {enc : α → List D} {pre : α → Prop} {add : Nat} {post : α → D → Prop} {t : TS} {N : List Str} {vs : List V} {H : Hp} {Q : VK} {E : XK} (h : spP K enc pre add post vs H Q E)
    (body : ∀ p a, pre a → EPS K 0 t ((D.adr p :: enc a).map some ++ List.replicate (N.length - (D.adr p :: enc a).length) none) none add (fun _ _ => False) (post a)) : t { nx := fun _ H' => Q .non H', rt := Q } (L2.start N vs) H := by
  obtain ⟨p, M, Hb, rest, a, rfl, s, hb, pa, hN, r, hp, kk⟩ := h
  refine body p a hp p M Hb H Hb H _ _ hN ((Fx.refl s).fp p) (ss_start s (RepL.cons rep_adr r)) rfl hb pa (fun δ' ow' Hb' H' σ' f' s' hp' hb' pa' n => n.elim) (fun v d Hn H' f' pa' r' q => kk v d Hn H' f' pa' r' q)
section
variable {w : World} {K : PySem.W.Frag} {pn : Nat} {δ : KX.Env} {ow : Own} {te : TE} {ta tb : TE} {tr : TA} {ts : TS} {k k1 k2 : Nat} {P : D → Prop} {Nx : KX.Env → Own → Prop} {R : D → Prop}
theorem ep_ix {ds : List D} (ha : ED K ta δ ow (.lst ds)) (hb : EP K pn tb δ ow k (fun d => ∃ i, d = .int i ∧ 0 ≤ i ∧ i < (ds.length : Int))) : EP K pn (tOp (rIxL K) ta tb) δ ow k (fun d => d ∈ ds) := by
  have h := ep_2 (r := rIxL K) (P := fun d => d ∈ ds) (k1 := 0) (ep_ed (pn := pn) (k := 0) (P := fun d => d = .lst ds) ha rfl) hb fun x y e1 ⟨i, e2, i0, i1⟩ => by
    subst e1 e2
    obtain ⟨j, rfl⟩ := Int.eq_ofNat_of_zero_le i0
    have hj : j < ds.length := by omega
    have at_ : atI ds (j : Int) = some ds[j] := atI_nat (List.getElem?_eq_getElem hj)
    refine ⟨ds[j], List.getElem_mem hj, fun Hb H v w Q s r1 r2 kk => ?_⟩
    rw [Rep] at r1
    rw [Rep] at r2
    obtain ⟨a, vs, e1, e2, e3⟩ := r1
    obtain ⟨x, h1, h2⟩ := repl_at e3 at_
    exact ⟨a, vs, j, x, e1, r2, sqL_of (s _ _ e2), h1, kk _ Hb H (.refl s) h2⟩
  rw [Nat.zero_add] at h
  exact h
/-- draw(n) -/
theorem ep_draw {n : Int} {E : XK} (h : ED K te δ ow (.int n)) (h0 : 0 < n ∧ n < 1000) : EP K pn (tCall (sp__law_draw K) [] E (tCons (tVar pn) (tCons te tNil))) δ ow 1 (fun d => ∃ r, d = .int r ∧ 0 ≤ r ∧ r < n) :=
  ep_call (k1 := 0) (PA := fun ds => ds = [D.int n]) (epa_ea (ea_cons h ea_nil) rfl) fun ds e => ⟨n, e.symm, h0, fun d q => q⟩
/-- pick(some) -/
theorem ep_pick {E : XK} {PA : List D → Prop} (h : EPA K pn tr δ ow k1 PA) (hl : ∀ ds, PA ds → 0 < ds.length ∧ ds.length < 1000) (hP : ∀ ds, PA ds → ∀ d ∈ ds, P d) : EP K pn (tCall (sp__law_pick K) [] E (tCons (tVar pn) (tCons (tLst tr) tNil))) δ ow (k1 + 1) P := by
  refine ep_call (k1 := k1) (PA := fun ds => ∃ es, PA es ∧ ds = [.lst es]) ?_ (fun ds ⟨es, h1, h2⟩ => ⟨es, h2.symm, hl es h1, fun d q => hP es h1 d q⟩)
  have := epa_cons (k2 := 0) (PA := fun ds => ∃ es, PA es ∧ ds = [.lst es]) (ep_lst (P := fun d => ∃ es, PA es ∧ d = .lst es) h (fun ds q => by have := (hl ds q).2; omega) (fun ds q => ⟨ds, q, rfl⟩)) (fun d ⟨es, q1, q2⟩ => epa_nil ⟨es, q1, by rw [q2]⟩)
  exact this
theorem ep_size {n : Int} {E : XK} (h : ED K te δ ow (.int n)) (h0 : 0 < n ∧ n ≤ 40) : EP K pn (tCall (sp__law_size K) [] E (tCons (tVar pn) (tCons te tNil))) δ ow 5 (fun d => ∃ r, d = .int r ∧ 1 ≤ r ∧ r ≤ 10 ^ 40) :=
  ep_call (k1 := 0) (PA := fun ds => ds = [D.int n]) (epa_ea (ea_cons h ea_nil) rfl) fun ds e => ⟨n, e.symm, h0, fun d q => q⟩
end
theorem l__law_pick {w : World} {K : PySem.W.Frag} {p : Addr} {ds : List D} (h : 0 < ds.length ∧ ds.length < 1000) : EPS K 0 (t__law_pick w K) [some (.adr p), some (.lst ds)] none 1 (fun _ _ => False) (fun d => d ∈ ds) := by
  refine eps_ret (ep_ix (ds := ds) (ed_var rfl) ?_) fun d q => q
  exact ep_draw (n := (ds.length : Int)) (ed_cb (ea_cons (ed_var (d := .lst ds) rfl) ea_nil) rd_lenL) (by omega)
theorem l__law_size {w : World} {K : PySem.W.Frag} {p : Addr} {n : Int} (h : 0 < n ∧ n ≤ 40) : EPS K 0 (t__law_size w K) [some (.adr p), some (.int n), none, none] none 5 (fun _ _ => False) (fun d => ∃ r, d = .int r ∧ 1 ≤ r ∧ r ≤ 10 ^ 40) := by
  refine eps_seq (k1 := 2) (k2 := 3) ?_
  refine eps_par (PA := fun ds => ∃ m z : Int, ds = [.int m, .int z] ∧ 0 ≤ m ∧ m < n ∧ 1 ≤ z ∧ z ≤ 6) ?_ ?_
  · refine epa_cons (k1 := 1) (k2 := 1) (ep_draw (n := n) (ed_var rfl) (by omega)) fun d ⟨m, e, m0, m1⟩ => ?_
    refine epa_cons (k1 := 1) (k2 := 0) (P1 := fun d => ∃ z, d = .int z ∧ 1 ≤ z ∧ z ≤ 6) ?_ fun d2 ⟨z, e2, z0, z1⟩ => epa_nil ⟨m, z, by rw [e, e2], m0, m1, z0, z1⟩
    exact ep_add (k1 := 0) (k2 := 1) (PI := fun i => i = 1) (PJ := fun j => 0 ≤ j ∧ j < 6) (ep_ed ed_int ⟨1, rfl, rfl⟩) (ep_draw (n := 6) ed_int (by decide)) (fun i j => i + j) fun i j h1 h2 => ⟨i + j, rfl, by omega, by omega⟩
  · rintro ds ⟨m, z, e, m0, m1, z0, z1⟩
    refine ⟨_, _, e, ?_⟩
    refine eps_ret (k := 2 + 1) (ep_pick (k1 := 2) (PA := fun ds => ds.length = 6 ∧ ∀ d ∈ ds, ∃ r, d = .int r ∧ 1 ≤ r ∧ r ≤ 10 ^ 40) ?_ (fun ds q => by omega) (fun ds q => q.2)) fun d q => q
    refine epa_cons (k1 := 0) (k2 := 2) (ep_ed (P := fun d => d = .int 1) ed_int rfl) fun d1 e1 => ?_
    refine epa_cons (k1 := 0) (k2 := 2) (ep_ed (P := fun d => d = .int 2) ed_int rfl) fun d2 e2 => ?_
    refine epa_cons (k1 := 0) (k2 := 2) (ep_ed (P := fun d => d = .int z) (ed_var rfl) rfl) fun d3 e3 => ?_
    refine epa_cons (k1 := 0) (k2 := 2) (ep_ed (P := fun d => d = .int z) (ed_var rfl) rfl) fun d4 e4 => ?_
    refine epa_cons (k1 := 1) (k2 := 1) (P1 := fun d => ∃ x, d = .int x ∧ 1 ≤ x ∧ x ≤ 40) (ep_add (k1 := 0) (k2 := 1) (PI := fun i => i = 1) (PJ := fun j => 0 ≤ j ∧ j < 40) (ep_ed ed_int ⟨1, rfl, rfl⟩) (ep_draw (n := 40) ed_int (by decide)) (fun i j => i + j) fun i j h1 h2 => ⟨i + j, rfl, by omega, by omega⟩) fun d5 ⟨x5, e5, a5, b5⟩ => ?_
    have tens : (1 : Int) ≤ ((10 ^ m.toNat : Nat) : Int) ∧ ((10 ^ m.toNat : Nat) : Int) ≤ 10 ^ 39 := by
      have h1 : 10 ^ m.toNat ≤ 10 ^ 39 := Nat.pow_le_pow_right (by decide) (by omega)
      have h2 : 0 < 10 ^ m.toNat := Nat.pow_pos (by decide)
      have h3 : ((10 ^ 39 : Nat) : Int) = 10 ^ 39 := by norm_cast
      omega
    have tenE : ED K (tCall (sp__law_ten K) [] E0 (tCons (tVar 2) tNil)) [some (.adr p), some (.int n), some (.int m), some (.int z)] none (.int ((10 ^ m.toNat : Nat) : Int)) := ed_call m (ea_cons (ed_var rfl) ea_nil) ⟨m0, by omega⟩
    refine epa_cons (k1 := 1) (k2 := 0) (P1 := fun d => ∃ x, d = .int x ∧ 1 ≤ x ∧ x ≤ 10 ^ 40) (ep_add (k1 := 0) (k2 := 1) (PI := fun i => i = ((10 ^ m.toNat : Nat) : Int)) (PJ := fun j => 0 ≤ j ∧ j < 99) (ep_ed tenE ⟨_, rfl, rfl⟩) (ep_draw (n := 99) ed_int (by decide)) (fun i j => i + j) fun i j h1 h2 => ⟨i + j, rfl, by omega, by omega⟩) fun d6 ⟨x6, e6, a6, b6⟩ => ?_
    refine epa_nil ⟨rfl, fun d hd => ?_⟩
    simp only [List.mem_cons, List.not_mem_nil, or_false] at hd
    rcases hd with rfl | rfl | rfl | rfl | rfl | rfl
    · exact ⟨1, e1, by omega, by omega⟩
    · exact ⟨2, e2, by omega, by omega⟩
    · exact ⟨z, e3, by omega, by omega⟩
    · exact ⟨z, e4, by omega, by omega⟩
    · exact ⟨x5, e5, by omega, by omega⟩
    · exact ⟨x6, e6, a6, b6⟩
section
variable {K : PySem.W.Frag} {pn : Nat} {δ : KX.Env} {ow : Own} {tr : TA} {ts : TS} {k1 k2 m n : Nat} {PJ : Nat → Prop} {Nx : KX.Env → Own → Prop} {R : D → Prop}
/-- for x in range(e): I by the turn -/
theorem eps_rng (he : EPA K pn tr δ ow k1 (fun ds => ∃ j : Nat, ds = [.int (j : Int)] ∧ j ≤ m ∧ PJ j)) (I : Nat → KX.Env → Own → Prop) (h0 : I 0 δ ow) (hn : n ≠ pn) (hm : m < 1000)
    (hs : ∀ i δ' ow', i < m → I i δ' ow' → offO n ow' = true ∧ EPS K pn ts (δ'.set n (some (.int (i : Int)))) ow' k2 (I (i + 1)) R) (hd : ∀ j δ' ow', PJ j → I j δ' ow' → Nx δ' ow') : EPS K pn (tFor (iRng1 tr) (gName n) ts) δ ow (k1 + m * k2) Nx R := fun p N Hb0 H0 Hb H σ En hN fx s hp hb pa kn kr => by
  refine he p N H0 Hb H σ _ (by omega) s hp hb pa fun vs ds Hn H2 f1 pa1 r1 q1 => ?_
  obtain ⟨j, e, jm, pj⟩ := q1
  rw [e] at r1
  obtain ⟨v, rfl, r2⟩ := repl1 r1
  have r2 : v = .int (j : Int) := by rw [Rep] at r2; exact r2
  subst r2
  refine ⟨(j : Int), rfl, by omega, by omega, ?_⟩
  have hw := walk_range (lo := 0) (n := j)
  have ej : ((j : Int)).toNat = j := by omega
  rw [ej]
  refine for_it hw (fun i σ' H' => ∃ Hb' δ' ow', Fp p Hb0 H0 Hb' H' ∧ SS K H0 Hb' H' σ' δ' ow' ∧ σ'[pn]? = some (some (.ref p)) ∧ Hb' p = none ∧ PenAt Hb' H' p (N + k1 + i * k2) ∧ I i δ' ow') ⟨Hn, δ, ow, fx.trans f1, s.fp f1 pa, hp, f1.df p hb pa.there, pa1.mono (by omega), h0⟩ (fun _ _ _ _ _ => trivial) ?_ ?_
  · rintro i x σ' Hx Hy hi ⟨Hb', δ', ow', a1, a2, a3, a4, a5, a6⟩ ⟨rfl, rfl⟩
    obtain ⟨ho, hb2⟩ := hs i δ' ow' (by omega) a6
    have hk : (i + 1) * k2 ≤ m * k2 := Nat.mul_le_mul_right k2 (by omega)
    have hk2 : (i + 1) * k2 = i * k2 + k2 := Nat.succ_mul i k2
    have ev : V.int (0 + (i : Int)) = V.int (i : Int) := by rw [Int.zero_add]
    show gName n (V.int (0 + (i : Int))) _ _ _
    rw [ev]
    refine hb2 p (N + k1 + i * k2) Hb0 H0 Hb' Hy _ _ (by omega) a1 (a2.set (i := n) rep_int (offO_ok ho)) (by rw [List.getElem?_set_ne hn]; exact a3) a4 a5 (fun δ3 ow3 Hb3 H3 σ3 f3 s3 hp3 hb3 pa3 i3 => ⟨Hb3, δ3, ow3, f3, s3, hp3, hb3, pa3.mono (by omega), i3⟩) (fun v d Hn H' f' pa' r' q => kr v d Hn H' f' (pa'.mono (by omega)) r' q)
  · rintro σ' H' ⟨Hb', δ', ow', a1, a2, a3, a4, a5, a6⟩
    have hk : j * k2 ≤ m * k2 := Nat.mul_le_mul_right k2 jm
    exact kn δ' ow' Hb' H' σ' a1 a2 a3 a4 (a5.mono (by omega)) (hd j δ' ow' pj a6)
theorem eps_freeze {ds : List D} {k : Nat} (h : EPS K pn ts (δ.set n (some (.lst ds))) none k Nx R) : EPS K pn ts δ (some (n, .l ds)) k Nx R := fun p N Hb0 H0 Hb H σ En hN fx s hp hb pa kn kr => by
  obtain ⟨hd, l, vs, h1, h2, h3, h4, h5⟩ := s.ownL
  have nlp : l ≠ p := fun q => by
    obtain ⟨c, ns, m, lf, w1, _⟩ := pa
    rw [q, w1] at h4
    cases h4
  have sm : Same (upd Hb l (.lst vs)) H := fun b x e => by
    by_cases q : b = l
    · subst q
      rw [upd_same] at e
      rw [h4]
      exact e
    · rw [upd_ne q] at e
      exact s.sm b x e
  have sb : Same Hb (upd Hb l (.lst vs)) := same_new h3
  refine h p N Hb0 H0 (upd Hb l (.lst vs)) H σ En hN ⟨fx.bn.trans sb, sm, fx.s, fx.t, fun b e1 e2 => ?_⟩ ⟨sm, fun i d e => ?_, by rw [List.length_set, s.len], fun i ds' e => ?_⟩ hp (by rw [upd_ne nlp.symm]; exact hb) (pa.same sb (Same.refl _)) kn kr
  · have q : b ≠ l := fun q => e2 (by rw [q]; exact h2)
    rw [upd_ne q]
    exact fx.df b e1 e2
  · by_cases q : n = i
    · subst q
      have hn : n < δ.length := (List.getElem?_eq_some_iff.mp hd).1
      rw [List.getElem?_set_self hn] at e
      have : D.lst ds = d := by simpa using e
      subst this
      exact ⟨_, h1, rep_lst upd_same (h5.mono sb)⟩
    · rw [List.getElem?_set_ne q] at e
      obtain ⟨v, g1, g2⟩ := s.rep i d e
      exact ⟨v, g1, g2.mono sb⟩
  · cases e
end
theorem in_three (a : Way) : inV (.str a.s) ((["halfeven", "floor", "halfup"] : List Str).map V.str) = decide (¬ (a = .cu ∨ a = .ha)) := by cases a <;> decide
theorem l__law_entries {w : World} {K : PySem.W.Frag} {p : Addr} {a : Way} : EPS K 0 (t__law_entries w K) [some (.adr p), some (.str a.s), none, none, none, none] none 28 (fun _ _ => False) (fun d => ∃ es, d = dE es ∧ Drawn a es) := by
  have okE : ∀ (u sg t : Int), u ∈ ([5, 15, 10, 20, 3, 25, 0, 12] : List Int) → (sg = 1 ∨ sg = -1 ∧ ¬ (a = .cu ∨ a = .ha)) → 0 ≤ t → t ≤ 10 ^ 41 → 0 ≤ t ∧ t ≤ 10 ^ 41 ∧ (-25 ≤ sg * u ∧ sg * u ≤ 25) ∧ (a = .cu ∨ a = .ha → 0 ≤ sg * u) := by
    intro u sg t hu hs t0 t1
    have hb : 0 ≤ u ∧ u ≤ 25 := by
      simp only [List.mem_cons, List.not_mem_nil, or_false] at hu
      omega
    refine ⟨t0, t1, ?_, fun c => ?_⟩
    · rcases hs with h | ⟨h, _⟩ <;> rw [h] <;> omega
    · rcases hs with h | ⟨_, h⟩
      · rw [h]; omega
      · exact absurd c h
  refine eps_seq (k1 := 0) (k2 := 28) (eps_own (by simp) ?_)
  refine eps_seq (k1 := 1 + 3 * 9) (k2 := 0) ?_
  refine eps_rng (k1 := 1) (k2 := 9) (m := 3) (PJ := fun j => 1 ≤ j ∧ j ≤ 3) (n := 3) ?_ (fun i δ' ow' => ∃ (es : Ent) (x y z : Option D), δ' = [some (.adr p), some (.str a.s), none, x, y, z] ∧ ow' = some (2, .l (es.map encE)) ∧ es.length = i ∧ ∀ e ∈ es, 0 ≤ e.2 ∧ e.2 ≤ 10 ^ 41 ∧ (-25 ≤ e.1 ∧ e.1 ≤ 25) ∧ (a = .cu ∨ a = .ha → 0 ≤ e.1)) ?_ (by decide) (by decide) ?_ ?_
  · refine epa_cons (k1 := 1) (k2 := 0) (P1 := fun d => ∃ j : Nat, d = .int (j : Int) ∧ 1 ≤ j ∧ j ≤ 3) (ep_add (k1 := 0) (k2 := 1) (PI := fun i => i = 1) (PJ := fun j => 0 ≤ j ∧ j < 3) (ep_ed ed_int ⟨1, rfl, rfl⟩) (ep_draw (n := 3) ed_int (by decide)) (fun i j => i + j) fun i j h1 h2 => ⟨(i + j).toNat, by rw [show (((i + j).toNat : Nat) : Int) = i + j by omega], by omega, by omega⟩) fun d ⟨j, e, j1, j3⟩ => epa_nil ⟨j, by rw [e], j3, j1, j3⟩
  · exact ⟨[], none, none, none, rfl, rfl, rfl, fun e he => nomatch he⟩
  · rintro i δ' ow' hi ⟨es, x, y, z, rfl, rfl, hl, he⟩
    refine ⟨rfl, ?_⟩
    show EPS K 0 _ [some (.adr p), some (.str a.s), none, some (.int (i : Int)), y, z] _ _ _ _
    refine eps_seq (k1 := 1) (k2 := 8) (eps_set (P := fun d => ∃ u, d = .int u ∧ u ∈ ([5, 15, 10, 20, 3, 25, 0, 12] : List Int)) (ep_pick (k1 := 0) (PA := fun ds => ds = ([5, 15, 10, 20, 3, 25, 0, 12] : List Int).map D.int) (epa_ea (ea_cons ed_int (ea_cons ed_int (ea_cons ed_int (ea_cons ed_int (ea_cons ed_int (ea_cons ed_int (ea_cons ed_int (ea_cons ed_int ea_nil)))))))) rfl) (fun ds e => by rw [e]; decide) (fun ds e d hd => ?_)) fun d ⟨u, e, hu⟩ => ?_)
    · rw [e] at hd
      obtain ⟨u, hu, e⟩ := List.mem_map.mp hd
      exact ⟨u, e.symm, hu⟩
    rw [e]
    show EPS K 0 _ [some (.adr p), some (.str a.s), none, some (.int (i : Int)), some (.int u), z] _ _ _ _
    refine eps_seq (k1 := 1) (k2 := 7) (eps_set (P := fun d => ∃ sg, d = .int sg ∧ (sg = 1 ∨ sg = -1 ∧ ¬ (a = .cu ∨ a = .ha))) (ep_if (b := decide (¬ (a = .cu ∨ a = .ha))) (et_test (ed_inT (neg := false) (x := a.s) (ys := ["halfeven", "floor", "halfup"]) (ed_var rfl) (ed_tup (ea_cons ed_str (ea_cons ed_str (ea_cons ed_str ea_nil))) (by simp)) (in_three a))) (fun hb => ?_) (fun hb => ep_ed ed_int ⟨1, rfl, .inl rfl⟩)) fun d ⟨sg, e2, hsg⟩ => ?_)
    · have hb := of_decide_eq_true hb
      refine ep_pick (k1 := 0) (PA := fun ds => ds = [D.int 1, D.int (-1)]) (epa_ea (ea_cons ed_int (ea_cons (ed_U (g := fun i => -i) ed_int) ea_nil)) rfl) (fun ds e => by rw [e]; decide) (fun ds e d hd => ?_)
      rw [e] at hd
      simp only [List.mem_cons, List.not_mem_nil, or_false] at hd
      rcases hd with h | h
      · exact ⟨1, h, .inl rfl⟩
      · exact ⟨-1, h, .inr ⟨rfl, hb⟩⟩
    rw [e2]
    show EPS K 0 _ [some (.adr p), some (.str a.s), none, some (.int (i : Int)), some (.int u), some (.int sg)] _ _ _ _
    have bu : u.natAbs < 2 ^ 10 ∧ sg.natAbs < 2 ^ 10 := by
      simp only [List.mem_cons, List.not_mem_nil, or_false] at hu
      omega
    refine eps_app (P := fun d => ∃ t : Int, d = encE (sg * u, t) ∧ 0 ≤ t ∧ t ≤ 10 ^ 41) ?_ (by rw [List.length_map]; omega) fun d ⟨t, e3, t0, t1⟩ => ?_
    · refine ep_tup (PA := fun ds => ∃ t : Int, ds = [.wt (sg * u), .int t] ∧ 0 ≤ t ∧ t ≤ 10 ^ 41) ?_ (fun ds ⟨t, e, _⟩ => by rw [e]; simp) (fun ds ⟨t, e, h⟩ => ⟨t, by rw [e], h⟩)
      refine epa_cons (k1 := 0) (k2 := 7) (P1 := fun d => d = .wt (sg * u)) (ep_ed (ed_is (ed_mkW (u := sg * u) (s := 1) (ea_cons (ed_I (g := fun i j => i * j) (ed_var rfl) (ed_var rfl) (mul_ok bu.2 bu.1)) (ea_cons ed_int ea_nil)) (.inr rfl)) (by simp [tn])) rfl) fun d1 e1 => ?_
      refine epa_cons (k1 := 6 + 1) (k2 := 0) (P1 := fun d => ∃ t, d = .int t ∧ 0 ≤ t ∧ t ≤ 10 ^ 41) (ep_pick (k1 := 6) (PA := fun ds => (0 < ds.length ∧ ds.length < 1000) ∧ ∀ d ∈ ds, ∃ t, d = .int t ∧ 0 ≤ t ∧ t ≤ 10 ^ 41) ?_ (fun ds q => q.1) (fun ds q => q.2)) fun d2 ⟨t, e, h⟩ => epa_nil ⟨t, by rw [e1, e], h⟩
      refine epa_cons (k1 := 0) (k2 := 6) (P1 := fun d => d = .int 0) (ep_ed ed_int rfl) fun f1 g1 => ?_
      refine epa_cons (k1 := 0) (k2 := 6) (P1 := fun d => d = .int 1) (ep_ed ed_int rfl) fun f2 g2 => ?_
      refine epa_cons (k1 := 0) (k2 := 6) (P1 := fun d => d = .int 2) (ep_ed ed_int rfl) fun f3 g3 => ?_
      refine epa_cons (k1 := 1) (k2 := 5) (ep_draw (n := 9) ed_int (by decide)) fun f4 ⟨t4, g4, a4, b4⟩ => ?_
      refine epa_cons (k1 := 5) (k2 := 0) (ep_size (n := 40) ed_int (by decide)) fun f5 ⟨t5, g5, a5, b5⟩ => ?_
      refine epa_nil ⟨by simp, fun d hd => ?_⟩
      simp only [List.mem_cons, List.not_mem_nil, or_false] at hd
      rcases hd with rfl | rfl | rfl | rfl | rfl
      · exact ⟨0, g1, by omega, by omega⟩
      · exact ⟨1, g2, by omega, by omega⟩
      · exact ⟨2, g3, by omega, by omega⟩
      · exact ⟨t4, g4, by omega, by omega⟩
      · exact ⟨t5, g5, by omega, by omega⟩
    · refine ⟨es ++ [(sg * u, t)], _, _, _, rfl, by rw [e3, List.map_append]; rfl, by simp [hl], fun e h => ?_⟩
      rcases List.mem_append.mp h with h | h
      · exact he e h
      · rw [List.mem_singleton.mp h]
        exact okE u sg t hu hsg t0 t1
  · rintro j δ' ow' j1 ⟨es, x, y, z, rfl, rfl, hl, he⟩
    refine eps_freeze (ds := es.map encE) (eps_ret (P := fun d => d = dE es) (ep_ed (ed_var rfl) rfl) fun d e => ⟨es, e, ?_⟩)
    exact ⟨by omega, by omega, fun e h => (he e h).1, fun e h => (he e h).2.1, fun e h => (he e h).2.2.1, fun c e h => (he e h).2.2.2 c⟩
end KX
/-! The law: True at every script. -/
namespace KX
open PySem PySem.Spec PyProof.Rows L2
theorem Drawn.dr {w : Way} {es : Ent} (d : Drawn w es) : Dr w es := ⟨d.few, d.nn, d.ts, d.sm, d.po⟩
section
variable {K : PySem.W.Frag} {pn : Nat} {δ : KX.Env} {ow : Own} {tr : TA} {k : Nat} {PA : List D → Prop} {P : D → Prop}
theorem ep_mkD (h : EPA K pn tr δ ow k (fun ds => ∃ b P a : Int, ds = [.int b, .int P, .int a] ∧ 1 ≤ b ∧ b ≤ 10 ^ 40 ∧ 1 ≤ P ∧ P ≤ 10 ^ 40)) :
    EP K pn (tMake (cD K) (spDI K) [] E0 tr) δ ow k (fun d => ∃ b P a : Int, d = .deal (mkb b P) P (a % (mkb b P * P)) ∧ 1 ≤ b ∧ b ≤ 10 ^ 40 ∧ 1 ≤ P ∧ P ≤ 10 ^ 40) := fun p N H0 Hb H σ Q hN ss hp hb pa kk => by
  refine h p N H0 Hb H σ _ hN ss hp hb pa fun vs ds Hn H2 f1 pa1 r1 ⟨b, P, a, e, h1, h2, h3, h4⟩ => ?_
  rw [e] at r1
  intro x dx hx hdx hne
  rw [RepL] at r1
  obtain ⟨v, q, rfl, r2, r1⟩ := r1
  obtain ⟨w, y, rfl, r3, r4⟩ := repl2 r1
  rw [Rep] at r2
  rw [Rep] at r3
  rw [Rep] at r4
  subst r2 r3 r4
  obtain ⟨m, hb, hf⟩ := made_fx (C := cD K) (fs := dFs (mkb b P) P (a % (mkb b P * P))) f1.n2 hx hdx hne
  have big : ∀ x : Int, 1 ≤ x → x ≤ 10 ^ 40 → x.natAbs < 2 ^ 400 := fun x a b => small_ok (show x.natAbs < 2 ^ 140 by omega)
  refine ⟨x, b, P, a, dx, Hn, rfl, hb, m, upd_same, ⟨by omega, by omega, big b h1 h2, big P h3 h4⟩, fun Hk H3 f => ⟨rfl, ?_⟩⟩
  have f2 := hf Hk H3 f
  exact kk _ _ _ _ (f1.trans (f2.fp p)) (pa1.same f2.bn f2.s) (by rw [Rep]; exact ⟨x, dx, rfl, upd_same⟩) ⟨b, P, a, rfl, h1, h2, h3, h4⟩
end
theorem end_bd : ∀ (es : Ent) (s : Int × Int × Int × Int), (∀ e ∈ es, 0 ≤ e.2) → (es.foldl endStep s).1 + (es.foldl endStep s).2.2.1 = s.1 + s.2.2.1 + lin es ∧ (es.foldl endStep s).2.1 + (es.foldl endStep s).2.2.1 ≤ s.2.1 + s.2.2.1 + sT es ∧ s.2.1 ≤ (es.foldl endStep s).2.1 ∧ s.2.2.1 ≤ (es.foldl endStep s).2.2.1
  | [], s, _ => by
    show s.1 + s.2.2.1 = s.1 + s.2.2.1 + 0 ∧ s.2.1 + s.2.2.1 ≤ s.2.1 + s.2.2.1 + 0 ∧ s.2.1 ≤ s.2.1 ∧ s.2.2.1 ≤ s.2.2.1
    omega
  | e :: r, s, he => by
    have h0 := he e (by simp)
    have ih := end_bd r (endStep s e) (fun q hq => he q (List.mem_cons_of_mem _ hq))
    rw [List.foldl_cons, sT_cons]
    have k : (endStep s e).1 + (endStep s e).2.2.1 = s.1 + s.2.2.1 + e.2 * va e.1 ∧ (endStep s e).2.1 + (endStep s e).2.2.1 ≤ s.2.1 + s.2.2.1 + e.2 ∧ s.2.1 ≤ (endStep s e).2.1 ∧ s.2.2.1 ≤ (endStep s e).2.2.1 := by
      unfold endStep va
      cases hl : looseF .he e.1
      · simp only [Bool.false_eq_true, false_and, if_false, Int.add_zero]
        omega
      · by_cases hu : unitF .he e.1 % 2 = 0
        · simp only [hu, true_and, if_true, ne_eq, not_true_eq_false, if_false, Int.add_zero]
          omega
        · have h1 : unitF .he e.1 % 2 = 1 := by omega
          have m : e.2 * (unitF .he e.1 + 1) = e.2 * unitF .he e.1 + e.2 := by rw [Int.mul_add, Int.mul_one]
          simp only [h1, true_and, if_true, ne_eq, if_false]
          rw [m]
          simp
          omega
    have hl : lin (e :: r) = e.2 * va e.1 + lin r := rfl
    omega
theorem ord_bd {w : Way} {es : Ent} (dr : Dr w es) : -(10 ^ 43) ≤ ordLo w es ∧ ordHi w es ≤ 10 ^ 43 := by
  have t := tot_le dr
  by_cases h : w = .he
  · subst h
    have s1 := sgl_small (w := .he) dr.nn dr.sm
    rw [sgl_lin] at s1
    have b := end_bd es (0, 0, 0, 0) dr.nn
    simp only [Int.add_zero, Int.zero_add] at b
    show -(10 ^ 43) ≤ endLo es ∧ endHi es ≤ 10 ^ 43
    unfold endLo endHi endF mn
    split <;> split <;> omega
  · obtain ⟨e1, e2⟩ := ord_lf dr h
    obtain ⟨e3, e4⟩ := giv_lf dr h 1
    have := giv_bd dr (show (0 : Int) < 1 by omega)
    omega
def spTop (K : PySem.W.Frag) : Sp := fun vs H Q _ => ∃ (l : Addr) (ns : List Int) (Hb : Hp), vs = [.ref l] ∧ Same Hb H ∧ SqL K Hb l (ns.map V.int) ∧ ∀ H', Q (.bl true) H'
def manners : List Way := [.he, .he, .he, .fl, .hu, .cu, .ha]
section
variable {K : PySem.W.Frag} {mg : Str → Option Value} {w : World} (Z : Bas K mg)
include Z
theorem l_law_tail {y : Way} {es : Ent} {b0 P a0 : Int} {l : Addr} (dr : Dr y es) (hb0 : 1 ≤ b0 ∧ b0 ≤ 10 ^ 40) (hP : 1 ≤ P ∧ P ≤ 10 ^ 40) :
    ES K (tSeq (tPar 5 6 (tCons (tCall (sp_running_total K) [] E0 (tCons (tVar 3) (tCons (tC (.int 0)) (tCons (tVar 2) tNil)))) (tCons (tCall (sp_order_range K) [] E0 (tCons (tVar 3) (tCons (tC (.int 0)) (tCons (tVar 2) tNil)))) tNil)))
  (tSeq (tAsg (tCall (sp__law_ends K) [] E0 (tCons (tVar 3) (tCons (tVar 2) (tCons (tFld K (tVar 4) "houses") tNil)))) (gTup K 2 (gCons (gName 7) (gCons (gName 8) gNil))))
  (tSeq (tIfS (tOr (tNot (tB (tCall (sp__law_rising K) [] E0 (tCons (tLst (tCons (tOp (rIxT K) (tVar 6) (tC (.int 0))) (tCons (tVar 5) (tCons (tOp (rIxT K) (tVar 6) (tC (.int 1))) tNil)))) tNil)))) (tNot (tB (tCall (sp__law_giving_right K) [] E0 (tCons (tVar 3) (tCons (tVar 2) (tCons (tFld K (tVar 4) "houses") tNil))))))) (tRet (tC (.bl false))) tNext)
  (tSeq (tIfS (tNot (tB (tCall (sp__law_shifts_right K) [] E0 (tCons (tVar 3) (tCons (tVar 4) (tCons (tVar 2) (tCons (tVar 7) (tCons (tVar 8) tNil)))))))) (tRet (tC (.bl false))) tNext)
  (tSeq (tIfS (tOr (tTest (tOp (rNeTW K) (tCall (sp__law_ends K) [] E0 (tCons (tVar 3) (tCons (tVar 2) (tCons (tC (.int 1)) tNil)))) (tTup (tCons (tVar 5) (tCons (tVar 5) tNil))))) (tTest (tOp (rNeWt K) (tCall (sp_dealt_total K) [] E0 (tCons (tVar 3) (tCons (tMake (cD K) (spDI K) [.int 0] E0 (tCons (tC (.int 5)) (tCons (tC (.int 1)) tNil))) (tCons (tC (.int 0)) (tCons (tVar 2) tNil))))) (tVar 5)))) (tRet (tC (.bl false))) tNext)
  (tSeq (tPar 9 10 (tCons (tCB (rSum K) (tCons (tLc (iList K (tVar 3)) (gName 11) tYes (tOp (rIxT K) (tVar 11) (tC (.int 1))) [11]) tNil)) (tCons (tCall (sp_single_total K) [] E0 (tCons (tVar 3) (tCons (tC (.int 0)) (tCons (tVar 2) tNil)))) tNil)))
  (tSeq (tIfS (tOr (tTest (tOp (rNeWt K) (tCall (sp_dealt_total K) [] E0 (tCons (tVar 3) (tCons (tMake (cD K) (spDI K) [.int 0] E0 (tCons (tC (.int 1)) (tCons (tOp rAdd (tVar 9) (tC (.int 1))) tNil))) (tCons (tC (.int 0)) (tCons (tVar 2) tNil))))) (tVar 10))) (tNot (tB (tCall (sp__law_rising K) [] E0 (tCons (tLst (tCons (tVar 7) (tCons (tVar 8) tNil))) tNil))))) (tRet (tC (.bl false))) tNext)
  (tRet (tOrV (tNotV (tCall (sp_is_free K) [] E0 (tCons (tVar 3) (tCons (tC (.int 0)) (tCons (tVar 2) tNil))))) (tOp (rEqTW K) (tTup (tCons (tVar 7) (tCons (tVar 8) (tCons (tVar 10) tNil)))) (tTup (tCons (tVar 5) (tCons (tVar 5) (tCons (tVar 5) tNil))))))))))))))
    [some (.adr l), none, some (.str y.s), some (dE es), some (.deal (mkb b0 P) P (a0 % (mkb b0 P * P))), none, none, none, none, none, none, none] none (fun _ _ => False) (fun d => d = .bl true) := by
  have ok := dr.ok
  have told := dr.told
  have P0 : 0 < P := by omega
  have pw : (10 : Int) ^ 40 < 2 ^ 400 := by
    have h1 : (10 ^ 40 : Nat) < 2 ^ 400 := Nat.lt_of_lt_of_le (show 10 ^ 40 < 2 ^ 140 by decide) (Nat.pow_le_pow_right (by decide) (by decide))
    have h2 : ((10 ^ 40 : Nat) : Int) < ((2 ^ 400 : Nat) : Int) := Int.ofNat_lt.mpr h1
    rw [Int.natCast_pow, Int.natCast_pow] at h2
    exact h2
  have okd : OkD (mkb b0 P) P (a0 % (mkb b0 P * P)) := mkb_ok (by omega) P0 (by omega) (by omega) a0
  have okd1 : OkD (mkb 5 1) 1 (0 % (mkb 5 1 * 1)) := mkb_ok (by omega) (by omega) (by omega) (by omega) 0
  have st := tot_le dr
  have okd2 : OkD (mkb 1 (sT es + 1)) (sT es + 1) (0 % (mkb 1 (sT es + 1) * (sT es + 1))) := by
    refine mkb_ok (by omega) (by omega) (by omega) ?_ 0
    have h1 : (10 ^ 43 : Nat) < 2 ^ 400 := Nat.lt_of_lt_of_le (show 10 ^ 43 < 2 ^ 150 by decide) (Nat.pow_le_pow_right (by decide) (by decide))
    have h2 : ((10 ^ 43 : Nat) : Int) < ((2 ^ 400 : Nat) : Int) := Int.ofNat_lt.mpr h1
    rw [Int.natCast_pow, Int.natCast_pow] at h2
    have h3 : ((10 : Nat) : Int) ^ 43 = 10000000000000000000000000000000000000000000 := by decide
    rw [h3] at h2
    have h4 : (((2 : Nat) : Int) ^ 400) = (2 : Int) ^ 400 := rfl
    rw [h4] at h2
    omega
  have bd := giv_bd dr P0
  have bd1 := giv_bd dr (show (0 : Int) < 1 by omega)
  obtain ⟨o1, o2⟩ := giv_one dr
  have cho := chain_ord dr
  have mk5 : mkb 5 1 = 1 := by decide
  have mk1 : mkb 1 (sT es + 1) = 1 := by unfold mkb; split <;> rfl
  -- the ends of all orders are small
  have ob := ord_bd dr
  refine es_seq (es_par (ea_cons (c_running_total (ea_cons (ed_var rfl) (ea_cons ed_int (ea_cons (ed_var rfl) ea_nil))) ok) (ea_cons (c_order_range (ea_cons (ed_var rfl) (ea_cons ed_int (ea_cons (ed_var rfl) ea_nil))) ⟨ok, dr.po⟩) ea_nil)) ?_)
  refine es_seq (es_asg (c__law_ends (i := P) (ea_cons (ed_var rfl) (ea_cons (ed_var rfl) (ea_cons (ed_houses Z.clD (Z.noat "Deal" "houses") (ed_var rfl)) ea_nil))) ⟨ok, told, P0⟩) (eg_tup (egs_cons eg_name (egs_cons eg_name egs_nil))) ?_)
  refine es_seq (es_if (b := false) (et_is (et_or (b := false) (c := false) (et_is (et_not (et_B (c__law_rising (ws := [10 * ordLo y es, 10 * runF y es, 10 * ordHi y es]) (ea_cons (ed_lst (ea_cons (ed_ixT (ed_var rfl) ed_int rfl) (ea_cons (ed_var rfl) (ea_cons (ed_ixT (ed_var rfl) ed_int rfl) ea_nil))) (by simp)) ea_nil) ⟨by simp, ?_⟩))) (by rw [ris3 (by omega) (by omega)]; rfl)) fun _ => et_is (et_not (et_B (ed_call (es, y, P) (ea_cons (ed_var rfl) (ea_cons (ed_var rfl) (ea_cons (ed_houses Z.clD (Z.noat "Deal" "houses") (ed_var rfl)) ea_nil))) (preG dr P0)))) rfl) rfl) (fun h => by cases h) fun _ => es_next ?_)
  · intro x hx
    simp only [List.mem_cons, List.not_mem_nil, or_false] at hx
    rcases hx with rfl | rfl | rfl <;> exact big_ok (by decide) (by omega)
  refine es_seq (es_if (b := false) (et_is (et_not (et_B (ed_call (es, mkb b0 P, P, a0 % (mkb b0 P * P), y, 10 * givLo y es P, 10 * givHi y es P) (ea_cons (ed_var rfl) (ea_cons (ed_var rfl) (ea_cons (ed_var rfl) (ea_cons (ed_var rfl) (ea_cons (ed_var rfl) ea_nil))))) (preS dr okd)))) rfl) (fun h => by cases h) fun _ => es_next ?_)
  refine es_seq (es_if (b := false) (et_is (et_or (b := false) (c := false) (et_test (ed_neTW (ns := [10 * runF y es, 10 * runF y es]) (ed_is (c__law_ends (i := 1) (ea_cons (ed_var rfl) (ea_cons (ed_var rfl) (ea_cons ed_int ea_nil))) ⟨ok, told, by omega⟩) (by rw [o1, o2]; rfl)) (ed_tup (ea_cons (ed_var rfl) (ea_cons (ed_var rfl) ea_nil)) (by simp)))) fun _ => et_is (et_test (ed_neW (n := 10 * dtotF y es (mkb 5 1) 1 (0 % (mkb 5 1 * 1))) (c_dealt_total (ea_cons (ed_var rfl) (ea_cons (ed_mkD2 (ea_cons ed_int (ea_cons ed_int ea_nil)) ⟨by decide, by decide, by decide, by decide⟩) (ea_cons ed_int (ea_cons (ed_var rfl) ea_nil)))) ⟨ok, okd1⟩) (ed_var rfl))) (by rw [mk5, deal_one dr, decide_eq_true rfl]; rfl)) rfl) (fun h => by cases h) fun _ => es_next ?_)
  refine es_seq (es_par (d1 := .int (sT es)) (ea_cons (ed_is (ed_cb (ea_cons (ed_lcA (δ := _) es encE (fun e => .int e.2) (eil_list (ed_var rfl)) (gw_name (by simp)) (fun v hv => by rw [List.mem_singleton.mp hv]; rfl) (by have := dr.few; omega) (fun e _ => ⟨_, eg_name rfl, ed_ixT (ed_var rfl) ed_int rfl⟩)) ea_nil) (by
    have := rd_sum (K := K) (ns := es.map (·.2))
    rw [List.map_map] at this
    exact this)) rfl) (ea_cons (c_single_total (ea_cons (ed_var rfl) (ea_cons ed_int (ea_cons (ed_var rfl) ea_nil))) ok) ea_nil)) ?_)
  refine es_seq (es_if (b := false) (et_is (et_or (b := false) (c := false) (et_is (et_test (ed_neW (n := 10 * dtotF y es (mkb 1 (sT es + 1)) (sT es + 1) (0 % (mkb 1 (sT es + 1) * (sT es + 1)))) (c_dealt_total (ea_cons (ed_var rfl) (ea_cons (ed_mkD2 (ea_cons ed_int (ea_cons (ed_I0 (g := fun i j => i + j) (ed_var rfl) ed_int) ea_nil)) ⟨by decide, by omega, by decide, ?_⟩) (ea_cons ed_int (ea_cons (ed_var rfl) ea_nil)))) ⟨ok, okd2⟩) (ed_var rfl))) (by rw [mk1, Int.zero_emod, deal_alone dr, decide_eq_true rfl]; rfl)) fun _ => et_is (et_not (et_B (c__law_rising (ws := [10 * givLo y es P, 10 * givHi y es P]) (ea_cons (ed_lst (ea_cons (ed_var rfl) (ea_cons (ed_var rfl) ea_nil)) (by simp)) ea_nil) ⟨by simp, ?_⟩))) (by rw [ris2 (by have := giv_le2 dr P0; omega)]; rfl)) rfl) (fun h => by cases h) fun _ => es_next ?_)
  · exact big_ok (by decide) (by omega)
  · intro x hx
    simp only [List.mem_cons, List.not_mem_nil, or_false] at hx
    rcases hx with rfl | rfl <;> exact big_ok (by decide) (by omega)
  refine es_ret (ed_is (d' := .bl true) (ed_orV (c := true) (ed_notV (c_is_free (ea_cons (ed_var rfl) (ea_cons ed_int (ea_cons (ed_var rfl) ea_nil))) ok)) fun h => ?_) (by rw [Bool.or_true])) rfl
  have hf : freeF y es = true := by simpa using h
  obtain ⟨g1, g2, g3⟩ := free_all dr hf P0
  exact ed_eqTW (ns := [10 * runF y es, 10 * runF y es, 10 * runF y es]) (ed_is (ed_tup (ea_cons (ed_var rfl) (ea_cons (ed_var rfl) (ea_cons (ed_var rfl) ea_nil))) (by simp)) (by rw [g1, g2, g3]; rfl)) (ed_tup (ea_cons (ed_var rfl) (ea_cons (ed_var rfl) (ea_cons (ed_var rfl) ea_nil))) (by simp))
omit Z in
theorem seq_run {ts us : TS} {D : Ends} {σ : L2.St} {H : Hp} (h : ts { D with nx := us D } σ H) : tSeq ts us D σ H := h
omit Z in
theorem asg_run {te : TE} {n : Nat} {us : TS} {D : Ends} {σ : L2.St} {H : Hp} (h : te σ H (fun v H1 => us D (σ.set n (some v)) H1)) : tSeq (tAsg te (gName n)) us D σ H := h
theorem l_law (vs : List V) (H : Hp) (Q : VK) (E : XK) (h : spTop K vs H Q E) : t_law w K { nx := fun _ H' => Q .non H', rt := Q } (L2.start ["_law_script", "_law_pen", "_law_manner", "_law_entries_here", "_law_deal", "_law_running", "_law_orders", "_law_low", "_law_high", "_law_many", "_law_alone", "_law_entry"] vs) H := by
  obtain ⟨l, ns, Hb, rfl, s, hl, kk⟩ := h
  unfold t_law
  refine asg_run ?_
  refine ⟨_, rfl, l, ns, Hb, rfl, s, hl, fun p Hn H' f hp hn pa => ?_⟩
  have ss : SS K H Hn H' [some (.ref l), some (.ref p), none, none, none, none, none, none, none, none, none, none] [some (.adr l), none, none, none, none, none, none, none, none, none, none, none] none := by
    refine ⟨f.n2, fun i d e => ?_, rfl, fun i c e => by cases e⟩
    match i, e with
    | 0, e =>
      have e : D.adr l = d := by simpa using e
      rw [← e]
      exact ⟨.ref l, rfl, rep_adr⟩
    | i + 1, e =>
      have e : ([none, none, none, none, none, none, none, none, none, none, none] : KX.Env)[i]? = some (some d) := e
      have := List.mem_of_getElem? e
      simp at this
  show tSeq (tAsg _ (gName 2)) _ _ _ H'
  have A := eps_set (K := K) (pn := 1) (δ := [some (.adr l), none, none, none, none, none, none, none, none, none, none, none]) (ow := none) (n := 2) (R := fun _ => False) (Nx := fun δ' ow' => ow' = none ∧ ∃ y : Way, δ' = [some (.adr l), none, some (.str y.s), none, none, none, none, none, none, none, none, none])
    (ep_pick (E := E0) (k1 := 0) (P := fun d => ∃ y : Way, d = .str y.s) (PA := fun ds => ds = manners.map fun y => D.str y.s) (epa_ea (ea_cons ed_str (ea_cons ed_str (ea_cons ed_str (ea_cons ed_str (ea_cons ed_str (ea_cons ed_str (ea_cons ed_str ea_nil))))))) rfl) (fun ds e => by rw [e]; decide) (fun ds e d hd => by
      rw [e] at hd
      obtain ⟨y, _, e2⟩ := List.mem_map.mp hd
      exact ⟨y, e2.symm⟩)) (fun d ⟨y, e⟩ => ⟨rfl, y, by rw [e]; rfl⟩)
  refine seq_run (A p 0 Hb H Hn H' _ _ (by omega) (f.fp p) ss rfl hn pa (fun δ1 ow1 Hb1 H1 σ1 f1 s1 p1 b1 a1 ⟨eo1, y, e1⟩ => ?_) (fun v d _ _ _ _ _ q => q.elim))
  subst eo1 e1
  have B := eps_set (K := K) (pn := 1) (δ := [some (.adr l), none, some (.str y.s), none, none, none, none, none, none, none, none, none]) (ow := none) (n := 3) (R := fun _ => False) (Nx := fun δ' ow' => ow' = none ∧ ∃ es : Ent, Drawn y es ∧ δ' = [some (.adr l), none, some (.str y.s), some (dE es), none, none, none, none, none, none, none, none])
    (ep_call (K := K) (enc := fun w : Way => [.str w.s]) (pre := fun _ => True) (add := 28) (post := fun w d => ∃ es, d = dE es ∧ Drawn w es) (E := E0) (k1 := 0) (PA := fun ds => ds = [D.str y.s]) (P := fun d => ∃ es, d = dE es ∧ Drawn y es) (epa_ea (ea_cons (ed_var (n := 2) rfl) ea_nil) rfl) fun ds e => ⟨y, e.symm, trivial, fun d q => q⟩) (fun d ⟨es, e, h⟩ => ⟨rfl, es, h, by rw [e]; rfl⟩)
  refine seq_run (B p _ Hb H Hb1 H1 _ _ (by omega) f1 s1 p1 b1 a1 (fun δ2 ow2 Hb2 H2 σ2 f2 s2 p2 b2 a2 ⟨eo2, es, dr, e2⟩ => ?_) (fun v d _ _ _ _ _ q => q.elim))
  subst eo2 e2
  have C := eps_set (K := K) (pn := 1) (δ := [some (.adr l), none, some (.str y.s), some (dE es), none, none, none, none, none, none, none, none]) (ow := none) (n := 4) (R := fun _ => False) (Nx := fun δ' ow' => ow' = none ∧ ∃ b P a : Int, (1 ≤ b ∧ b ≤ 10 ^ 40 ∧ 1 ≤ P ∧ P ≤ 10 ^ 40) ∧ δ' = [some (.adr l), none, some (.str y.s), some (dE es), some (.deal (mkb b P) P (a % (mkb b P * P))), none, none, none, none, none, none, none])
    (ep_mkD (K := K) (k := 5 + (5 + 1)) (epa_cons (k1 := 5) (k2 := 5 + 1) (ep_size (E := E0) (n := 20) ed_int (by decide)) fun d1 ⟨b, g1, u1, v1⟩ => epa_cons (k1 := 5) (k2 := 1) (ep_size (E := E0) (n := 20) ed_int (by decide)) fun d2 ⟨P, g2, u2, v2⟩ => epa_cons (k1 := 1) (k2 := 0) (P1 := fun d => ∃ a, d = .int a) (ep_add (k1 := 1) (k2 := 0) (PI := fun i => True) (PJ := fun j => True) (ep_mono (ep_draw (E := E0) (n := 50) ed_int (by decide)) (Nat.le_refl _) fun d ⟨r, e, _⟩ => ⟨r, e, trivial⟩) (ep_ed ed_int ⟨20, rfl, trivial⟩) (fun i j => i - j) fun i j _ _ => ⟨i - j, rfl⟩) fun d3 ⟨a, g3⟩ => epa_nil ⟨b, P, a, by rw [g1, g2, g3], u1, v1, u2, v2⟩)) (fun d ⟨b, P, a, e, h⟩ => ⟨rfl, b, P, a, h, by rw [e]; rfl⟩)
  refine seq_run (C p _ Hb H Hb2 H2 _ _ (by omega) f2 s2 p2 b2 a2 (fun δ3 ow3 Hb3 H3 σ3 f3 s3 p3 b3 a3 ⟨eo3, b, P, a, h, e3⟩ => ?_) (fun v d _ _ _ _ _ q => q.elim))
  subst eo3 e3
  refine l_law_tail Z (l := l) dr.dr ⟨h.1, h.2.1⟩ h.2.2 Hb H Hb3 H3 σ3 _ (f3.off hp) s3 (fun δ' ow' Hb' H' σ' f' m s' n => n.elim) (fun v d Hn H' f' r e => ?_)
  rw [e, Rep] at r
  rw [r]
  exact kk H'
end
end KX
/-! The derivations. Printed by gen.py. -/
namespace KX
open PySem PySem.Spec PyProof.Rows L2
section
variable {P : Program} {w : World} {K : PySem.W.Frag} {mg : Str → Option Value} {base : Heap}
abbrev N__law_begin : List Str := (["_law_script"] : List Str)
theorem sc__law_begin : FnScope N__law_begin (["_law_script"] : List Str) (defScope st__law_begin) := ⟨rfl, rfl, rfl, by decide +kernel, rfl, by decide +kernel, by decide +kernel⟩
theorem w__law_begin (Z : Bas K mg)  {f : Addr} {cdv : Value} {A : Around} {outer : List PySem.Env} {s : Shared} {H : Hp} {E : XK} (hr : Room 1 (A.deeper (envOfC "_law_begin" (defScope st__law_begin) s.heap.objs.size f cdv))) :
    PSs (cxOf CX0 P w K mg base N__law_begin "_law_begin" (defScope st__law_begin) f cdv A outer s H E).nox (defBody st__law_begin) (t__law_begin w K) := by
  have nd : (N__law_begin).Nodup := sc__law_begin.nd
  exact (pss_one (ps_ret (pe_disp (pps_cons pe_str (pe_callTy call_list_of rfl (Z.free "list") boot_list (pa_cons (pe_slice sl_list (pv 0) po_none (po_some pe_int)) pa_nil)) (pps_cons pe_str pe_int (pps_cons pe_str pe_int pps_nil))) rfl rfl (by decide) (by decide))))
abbrev N__law_draw : List Str := (["_law_pen", "_law_span", "_law_digit", "_law_count", "_law_cell", "_law_first", "_law_blend"] : List Str)
theorem sc__law_draw : FnScope N__law_draw (["_law_pen", "_law_span"] : List Str) (defScope st__law_draw) := ⟨rfl, rfl, rfl, by decide +kernel, rfl, by decide +kernel, by decide +kernel⟩
theorem w__law_draw (Z : Bas K mg)  {f : Addr} {cdv : Value} {A : Around} {outer : List PySem.Env} {s : Shared} {H : Hp} {E : XK} (hr : Room 1 (A.deeper (envOfC "_law_draw" (defScope st__law_draw) s.heap.objs.size f cdv))) :
    PSs (cxOf CX0 P w K mg base N__law_draw "_law_draw" (defScope st__law_draw) f cdv A outer s H E).nox (defBody st__law_draw) (t__law_draw w K) := by
  have nd : (N__law_draw).Nodup := sc__law_draw.nd
  exact (pss_cons (ps_if (pt_cmpR op_ge (pe_dget (hu_of hr) (pv 0) pe_str (fun _ _ => rfl)) (pv 1) (nomark _)) (pss_cons (ps_set (i := 2) nd rfl (Or.inl rfl) (pe_op op_mod (pe_callTy call_int1 rfl (Z.free "int") boot_int (pa_cons (pe_dget (hu_of hr) (pv 0) pe_str (fun _ _ => rfl)) pa_nil)) (pv 1)))
    (pss_cons (ps_dput (hu_of hr) (pv 0) pe_str (pe_op op_fdivW (pe_dget (hu_of hr) (pv 0) pe_str (fun _ _ => rfl)) (pv 1)) rfl)
    (pss_one (ps_ret (pv 2))))) pss_nil)
    (pss_cons (ps_set (i := 3) nd rfl (Or.inl rfl) (pe_dget (hu_of hr) (pv 0) pe_str (fun _ _ => rfl)))
    (pss_cons (ps_dput (hu_of hr) (pv 0) pe_str (pe_op op_add (pv 3) pe_int) rfl)
    (pss_cons (ps_set (i := 4) nd rfl (Or.inl rfl) (pe_op op_add (pe_op op_mulW pe_int (pv 3)) pe_int))
    (pss_cons (ps_if (pt_cmpR (op_neD (hu64 hr)) (pe_dget (hu_of hr) (pv 0) pe_str (fun _ _ => rfl)) (pe_lst pa_nil) (nomark _)) (pss_one (ps_set (i := 4) nd rfl (Or.inl rfl) (pe_ix ix_list (pe_dget (hu_of hr) (pv 0) pe_str (fun _ _ => rfl)) (pe_op op_mod (pe_callTy call_int1 rfl (Z.free "int") boot_int (pa_cons (pv 3) pa_nil)) (pe_callB call_len_seq rfl (Z.free "len") boot_len (pa_cons (pe_dget (hu_of hr) (pv 0) pe_str (fun _ _ => rfl)) pa_nil))) (fun _ _ => rfl)))) pss_nil)
    (pss_cons (ps_if (PW.pt (pw_and (pt_cmpR op_lt (pv 3) (pe_callB call_len_seq rfl (Z.free "len") boot_len (pa_cons (pe_dget (hu_of hr) (pv 0) pe_str (fun _ _ => rfl)) pa_nil)) (nomark _)) (pw_and1 (pt_cmpR op_ge (pv 4) (pe_op op_pow pe_int pe_int) (nomark _))))) (pss_cons (ps_dput (hu_of hr) (pv 0) pe_str (pe_op op_fdivW (pe_op op_sub (pv 4) (pe_op op_pow pe_int pe_int)) (pv 1)) rfl)
    (pss_one (ps_ret (pe_op op_mod (pe_callTy call_int1 rfl (Z.free "int") boot_int (pa_cons (pe_op op_sub (pv 4) (pe_op op_pow pe_int pe_int)) pa_nil)) (pv 1))))) pss_nil)
    (pss_cons (ps_set (i := 5) nd rfl (Or.inl rfl) (pe_op op_add (pe_op op_mulW (pe_op op_mod (pe_callTy call_int1 rfl (Z.free "int") boot_int (pa_cons (pv 4) pa_nil)) pe_int) pe_int) (pe_op op_mulW (pe_op op_mulW pe_int (pv 3)) (pv 3))))
    (pss_cons (ps_set (i := 6) nd rfl (Or.inl rfl) (pe_op op_mod (pe_callTy call_int1 rfl (Z.free "int") boot_int (pa_cons (pe_op op_add (pe_op op_add (pv 5) (pe_op op_mulW pe_int (pv 3))) pe_int) pa_nil)) pe_int))
    (pss_cons (ps_set (i := 6) nd rfl (Or.inl rfl) (pe_op op_mod (pe_callTy call_int1 rfl (Z.free "int") boot_int (pa_cons (pe_op op_mulW (pv 6) (pe_op op_add (pv 6) pe_int)) pa_nil)) pe_int))
    (pss_one (ps_ret (pe_op op_mod (pe_callTy call_int1 rfl (Z.free "int") boot_int (pa_cons (pe_op op_fdivW (pe_op op_mod (pe_callTy call_int1 rfl (Z.free "int") boot_int (pa_cons (pe_op op_add (pe_op op_mulW (pv 6) (pv 6)) (pe_op op_mulW pe_int (pv 6))) pa_nil)) pe_int) pe_int) pa_nil)) (pv 1)))))))))))))
abbrev N__law_pick : List Str := (["_law_pen", "_law_some"] : List Str)
theorem sc__law_pick : FnScope N__law_pick (["_law_pen", "_law_some"] : List Str) (defScope st__law_pick) := ⟨rfl, rfl, rfl, by decide +kernel, rfl, by decide +kernel, by decide +kernel⟩
theorem w__law_pick (Z : Bas K mg) (F__law_draw : Fct P w K mg base 2 "_law_draw" (["_law_pen", "_law_span"] : List Str) (sp__law_draw K)) {f : Addr} {cdv : Value} {A : Around} {outer : List PySem.Env} {s : Shared} {H : Hp} {E : XK} (hr : Room 2 (A.deeper (envOfC "_law_pick" (defScope st__law_pick) s.heap.objs.size f cdv))) :
    PSs (cxOf CX0 P w K mg base N__law_pick "_law_pick" (defScope st__law_pick) f cdv A outer s H E).nox (defBody st__law_pick) (t__law_pick w K) := by
  have nd : (N__law_pick).Nodup := sc__law_pick.nd
  exact (pss_one (ps_ret (pe_ix ix_list (pv 1) (pe_f F__law_draw hr (by decide) (pa_cons (pv 0) (pa_cons (pe_callB call_len_seq rfl (Z.free "len") boot_len (pa_cons (pv 1) pa_nil)) pa_nil))) (fun _ _ => rfl))))
abbrev N__law_ten : List Str := (["_law_number"] : List Str)
theorem sc__law_ten : FnScope N__law_ten (["_law_number"] : List Str) (defScope st__law_ten) := ⟨rfl, rfl, rfl, by decide +kernel, rfl, by decide +kernel, by decide +kernel⟩
theorem w__law_ten (Z : Bas K mg)  {f : Addr} {cdv : Value} {A : Around} {outer : List PySem.Env} {s : Shared} {H : Hp} {E : XK} (hr : Room 1 (A.deeper (envOfC "_law_ten" (defScope st__law_ten) s.heap.objs.size f cdv))) :
    PSs (cxOf CX0 P w K mg base N__law_ten "_law_ten" (defScope st__law_ten) f cdv A outer s H E).nox (defBody st__law_ten) (t__law_ten w K) := by
  have nd : (N__law_ten).Nodup := sc__law_ten.nd
  exact (pss_one (ps_ret (pe_callTy call_int_str rfl (Z.free "int") boot_int (pa_cons (pe_op op_add_str pe_str (pe_op op_zer pe_str (pv 0))) pa_nil))))
abbrev N__law_size : List Str := (["_law_pen", "_law_most", "_law_many", "_law_small"] : List Str)
theorem sc__law_size : FnScope N__law_size (["_law_pen", "_law_most"] : List Str) (defScope st__law_size) := ⟨rfl, rfl, rfl, by decide +kernel, rfl, by decide +kernel, by decide +kernel⟩
theorem w__law_size (Z : Bas K mg) (F__law_draw : Fct P w K mg base 2 "_law_draw" (["_law_pen", "_law_span"] : List Str) (sp__law_draw K)) (F__law_pick : Fct P w K mg base 3 "_law_pick" (["_law_pen", "_law_some"] : List Str) (sp__law_pick K)) (F__law_ten : Fct P w K mg base 2 "_law_ten" (["_law_number"] : List Str) (sp__law_ten K)) {f : Addr} {cdv : Value} {A : Around} {outer : List PySem.Env} {s : Shared} {H : Hp} {E : XK} (hr : Room 3 (A.deeper (envOfC "_law_size" (defScope st__law_size) s.heap.objs.size f cdv))) :
    PSs (cxOf CX0 P w K mg base N__law_size "_law_size" (defScope st__law_size) f cdv A outer s H E).nox (defBody st__law_size) (t__law_size w K) := by
  have nd : (N__law_size).Nodup := sc__law_size.nd
  exact (pss_cons (ps_par (i := 2) (j := 3) rfl nd rfl rfl (by decide) rfl rfl (pa_cons (pe_f F__law_draw hr (by decide) (pa_cons (pv 0) (pa_cons (pv 1) pa_nil))) (pa_cons (pe_op op_add pe_int (pe_f F__law_draw hr (by decide) (pa_cons (pv 0) (pa_cons pe_int pa_nil)))) pa_nil)) rfl)
    (pss_one (ps_ret (pe_f F__law_pick hr (by decide) (pa_cons (pv 0) (pa_cons (pe_lst (pa_cons pe_int (pa_cons pe_int (pa_cons (pv 3) (pa_cons (pv 3) (pa_cons (pe_op op_add pe_int (pe_f F__law_draw hr (by decide) (pa_cons (pv 0) (pa_cons pe_int pa_nil)))) (pa_cons (pe_op op_add (pe_f F__law_ten hr (by decide) (pa_cons (pv 2) pa_nil)) (pe_f F__law_draw hr (by decide) (pa_cons (pv 0) (pa_cons pe_int pa_nil)))) pa_nil))))))) pa_nil))))))
abbrev N__law_entries : List Str := (["_law_pen", "_law_manner", "_law_found", "_law_k", "_law_units", "_law_sign"] : List Str)
theorem sc__law_entries : FnScope N__law_entries (["_law_pen", "_law_manner"] : List Str) (defScope st__law_entries) := ⟨rfl, rfl, rfl, by decide +kernel, rfl, by decide +kernel, by decide +kernel⟩
theorem w__law_entries (Z : Bas K mg) (F__law_draw : Fct P w K mg base 2 "_law_draw" (["_law_pen", "_law_span"] : List Str) (sp__law_draw K)) (F__law_pick : Fct P w K mg base 3 "_law_pick" (["_law_pen", "_law_some"] : List Str) (sp__law_pick K)) (F__law_size : Fct P w K mg base 4 "_law_size" (["_law_pen", "_law_most"] : List Str) (sp__law_size K)) (MkW : MkrW P w K mg base 5) {f : Addr} {cdv : Value} {A : Around} {outer : List PySem.Env} {s : Shared} {H : Hp} {E : XK} (hr : Room 6 (A.deeper (envOfC "_law_entries" (defScope st__law_entries) s.heap.objs.size f cdv))) :
    PSs (cxOf CX0 P w K mg base N__law_entries "_law_entries" (defScope st__law_entries) f cdv A outer s H E).nox (defBody st__law_entries) (t__law_entries w K) := by
  have nd : (N__law_entries).Nodup := sc__law_entries.nd
  exact (pss_cons (ps_set (i := 2) nd rfl (Or.inl rfl) (pe_lst pa_nil))
    (pss_cons (ps_for PassesOwn.never rfl (pi_range1 rfl (Z.free "range") (pa_cons (pe_op op_add pe_int (pe_f F__law_draw hr (by decide) (pa_cons (pv 0) (pa_cons pe_int pa_nil)))) pa_nil)) (pg_name (i := 3) nd rfl (Or.inl rfl)) (pss_cons (ps_set (i := 4) nd rfl (Or.inl rfl) (pe_f F__law_pick hr (by decide) (pa_cons (pv 0) (pa_cons (pe_lst (pa_cons pe_int (pa_cons pe_int (pa_cons pe_int (pa_cons pe_int (pa_cons pe_int (pa_cons pe_int (pa_cons pe_int (pa_cons pe_int pa_nil))))))))) pa_nil))))
    (pss_cons (ps_set (i := 5) nd rfl (Or.inl rfl) (pe_ifExp (pt_cmpR op_in_seq (pv 1) (pe_tup (pa_cons pe_str (pa_cons pe_str (pa_cons pe_str pa_nil)))) (by rfl)) (pe_f F__law_pick hr (by decide) (pa_cons (pv 0) (pa_cons (pe_lst (pa_cons pe_int (pa_cons (pe_un un_neg pe_int) pa_nil))) pa_nil))) pe_int))
    (pss_one (ps_expr (pe_bm PySem.F.plainAttrs_list PySem.F.slot_list_append PySem.F.type_list_append mt_append (pv 2) (pa_cons (pe_tup (pa_cons (pe_mkW MkW hr (by decide) (pa_cons (pe_op op_mulW (pv 5) (pv 4)) (pa_cons pe_int pa_nil))) (pa_cons (pe_f F__law_pick hr (by decide) (pa_cons (pv 0) (pa_cons (pe_lst (pa_cons pe_int (pa_cons pe_int (pa_cons pe_int (pa_cons (pe_f F__law_draw hr (by decide) (pa_cons (pv 0) (pa_cons pe_int pa_nil))) (pa_cons (pe_f F__law_size hr (by decide) (pa_cons (pv 0) (pa_cons pe_int pa_nil))) pa_nil)))))) pa_nil))) pa_nil))) pa_nil)))))))
    (pss_one (ps_ret (pv 2)))))
abbrev N_law : List Str := (["_law_script", "_law_pen", "_law_manner", "_law_entries_here", "_law_deal", "_law_running", "_law_orders", "_law_low", "_law_high", "_law_many", "_law_alone", "_law_entry"] : List Str)
theorem sc_law : FnScope N_law (["_law_script"] : List Str) (defScope st_law) := ⟨rfl, rfl, rfl, by decide +kernel, rfl, by decide +kernel, by decide +kernel⟩
theorem w_law (Z : Bas K mg) (F__law_begin : Fct P w K mg base 2 "_law_begin" (["_law_script"] : List Str) (sp__law_begin K)) (F__law_draw : Fct P w K mg base 2 "_law_draw" (["_law_pen", "_law_span"] : List Str) (sp__law_draw K)) (F__law_ends : Fct P w K mg base 11 "_law_ends" (["_law_entries_here", "_law_manner", "_law_houses"] : List Str) (sp__law_ends K)) (F__law_entries : Fct P w K mg base 7 "_law_entries" (["_law_pen", "_law_manner"] : List Str) (sp__law_entries K)) (F__law_giving_right : Fct P w K mg base 12 "_law_giving_right" (["_law_entries_here", "_law_manner", "_law_houses"] : List Str) (sp__law_giving_right K)) (F__law_pick : Fct P w K mg base 3 "_law_pick" (["_law_pen", "_law_some"] : List Str) (sp__law_pick K)) (F__law_rising : Fct P w K mg base 9 "_law_rising" (["_law_worths"] : List Str) (sp__law_rising K)) (F__law_shifts_right : Fct P w K mg base 12 "_law_shifts_right" (["_law_entries_here", "_law_deal", "_law_manner", "_law_low", "_law_high"] : List Str) (sp__law_shifts_right K)) (F__law_size : Fct P w K mg base 4 "_law_size" (["_law_pen", "_law_most"] : List Str) (sp__law_size K)) (F_dealt_total : Fct P w K mg base 9 "dealt_total" (["entries", "deal", "scale", "way"] : List Str) (sp_dealt_total K)) (F_is_free : Fct P w K mg base 9 "is_free" (["entries", "scale", "way"] : List Str) (sp_is_free K)) (F_order_range : Fct P w K mg base 9 "order_range" (["entries", "scale", "way"] : List Str) (sp_order_range K)) (F_running_total : Fct P w K mg base 9 "running_total" (["entries", "scale", "way"] : List Str) (sp_running_total K)) (F_single_total : Fct P w K mg base 7 "single_total" (["entries", "scale", "way"] : List Str) (sp_single_total K)) (Meq : Mtd P w K mg base 2 (cW K) "__eq__" (["self", "other"] : List Str) (spEqW K)) (MkD : MkrD P w K mg base 5) {f : Addr} {cdv : Value} {A : Around} {outer : List PySem.Env} {s : Shared} {H : Hp} {E : XK} (hr : Room 12 (A.deeper (envOfC "law" (defScope st_law) s.heap.objs.size f cdv))) :
    PSs (cxOf CX0 P w K mg base N_law "law" (defScope st_law) f cdv A outer s H E).nox (defBody st_law) (t_law w K) := by
  have nd : (N_law).Nodup := sc_law.nd
  exact (pss_cons (ps_set (i := 1) nd rfl (Or.inl rfl) (pe_f F__law_begin hr (by decide) (pa_cons (pv 0) pa_nil)))
    (pss_cons (ps_set (i := 2) nd rfl (Or.inl rfl) (pe_f F__law_pick hr (by decide) (pa_cons (pv 1) (pa_cons (pe_lst (pa_cons pe_str (pa_cons pe_str (pa_cons pe_str (pa_cons pe_str (pa_cons pe_str (pa_cons pe_str (pa_cons pe_str pa_nil)))))))) pa_nil))))
    (pss_cons (ps_set (i := 3) nd rfl (Or.inl rfl) (pe_f F__law_entries hr (by decide) (pa_cons (pv 1) (pa_cons (pv 2) pa_nil))))
    (pss_cons (ps_set (i := 4) nd rfl (Or.inl rfl) (pe_mkD MkD hr (by decide) (pa_cons (pe_f F__law_size hr (by decide) (pa_cons (pv 1) (pa_cons pe_int pa_nil))) (pa_cons (pe_f F__law_size hr (by decide) (pa_cons (pv 1) (pa_cons pe_int pa_nil))) (pa_cons (pe_op op_sub (pe_f F__law_draw hr (by decide) (pa_cons (pv 1) (pa_cons pe_int pa_nil))) pe_int) pa_nil)))))
    (pss_cons (ps_par (i := 5) (j := 6) rfl nd rfl rfl (by decide) rfl rfl (pa_cons (pe_f F_running_total hr (by decide) (pa_cons (pv 3) (pa_cons pe_int (pa_cons (pv 2) pa_nil)))) (pa_cons (pe_f F_order_range hr (by decide) (pa_cons (pv 3) (pa_cons pe_int (pa_cons (pv 2) pa_nil)))) pa_nil)) rfl)
    (pss_cons (ps_asg (pe_f F__law_ends hr (by decide) (pa_cons (pv 3) (pa_cons (pv 2) (pa_cons (pe_fld (pv 4) rfl) pa_nil)))) (pg_tup rfl (pgs_cons (pg_name (i := 7) nd rfl (Or.inl rfl)) (pgs_cons (pg_name (i := 8) nd rfl (Or.inl rfl)) pgs_nil))))
    (pss_cons (ps_if (PW.pt (pw_or (pt_not (pt_val (pe_f F__law_rising hr (by decide) (pa_cons (pe_lst (pa_cons (pe_ix ix_tup (pv 6) pe_int (fun _ _ => rfl)) (pa_cons (pv 5) (pa_cons (pe_ix ix_tup (pv 6) pe_int (fun _ _ => rfl)) pa_nil)))) pa_nil)))) (pw_or1 (pt_not (pt_val (pe_f F__law_giving_right hr (by decide) (pa_cons (pv 3) (pa_cons (pv 2) (pa_cons (pe_fld (pv 4) rfl) pa_nil))))))))) (pss_one (ps_ret pe_bl)) pss_nil)
    (pss_cons (ps_if (pt_not (pt_val (pe_f F__law_shifts_right hr (by decide) (pa_cons (pv 3) (pa_cons (pv 4) (pa_cons (pv 2) (pa_cons (pv 7) (pa_cons (pv 8) pa_nil)))))))) (pss_one (ps_ret pe_bl)) pss_nil)
    (pss_cons (ps_if (PW.pt (pw_or (pt_cmpR (op_neTW Meq hr (by decide)) (pe_f F__law_ends hr (by decide) (pa_cons (pv 3) (pa_cons (pv 2) (pa_cons pe_int pa_nil)))) (pe_tup (pa_cons (pv 5) (pa_cons (pv 5) pa_nil))) (nomark _)) (pw_or1 (pt_cmpR (op_neW Meq Z.ne Z.isW.hm hr (by decide)) (pe_f F_dealt_total hr (by decide) (pa_cons (pv 3) (pa_cons (pe_mkD1 MkD hr (by decide) (pa_cons pe_int (pa_cons pe_int pa_nil))) (pa_cons pe_int (pa_cons (pv 2) pa_nil))))) (pv 5) (nomark _))))) (pss_one (ps_ret pe_bl)) pss_nil)
    (pss_cons (ps_par (i := 9) (j := 10) rfl nd rfl rfl (by decide) rfl rfl (pa_cons (pe_callB (cr_sum rfl) rfl (Z.free "sum") boot_sum (pa_cons (pe_lc (own := [("_law_entry", 11)]) (g := (gName 11)) (tt := tYes) rfl nd (pi_list (pv 3)) (blkOk_by (own := [("_law_entry", 11)]) (N := N_law) (sc := (defScope st_law)) (by decide +kernel)) (fun _ _ _ _ _ => (pg_name (i := 11) nd rfl (Or.inl rfl))) (fun _ _ _ _ _ => pts_nil) (fun _ _ _ _ _ => (pe_ix ix_tup (pv 11) pe_int (fun _ _ => rfl)))) pa_nil)) (pa_cons (pe_f F_single_total hr (by decide) (pa_cons (pv 3) (pa_cons pe_int (pa_cons (pv 2) pa_nil)))) pa_nil)) rfl)
    (pss_cons (ps_if (PW.pt (pw_or (pt_cmpR (op_neW Meq Z.ne Z.isW.hm hr (by decide)) (pe_f F_dealt_total hr (by decide) (pa_cons (pv 3) (pa_cons (pe_mkD1 MkD hr (by decide) (pa_cons pe_int (pa_cons (pe_op op_add (pv 9) pe_int) pa_nil))) (pa_cons pe_int (pa_cons (pv 2) pa_nil))))) (pv 10) (nomark _)) (pw_or1 (pt_not (pt_val (pe_f F__law_rising hr (by decide) (pa_cons (pe_lst (pa_cons (pv 7) (pa_cons (pv 8) pa_nil))) pa_nil))))))) (pss_one (ps_ret pe_bl)) pss_nil)
    (pss_one (ps_ret (pe_or (pe_not (pe_f F_is_free hr (by decide) (pa_cons (pv 3) (pa_cons pe_int (pa_cons (pv 2) pa_nil))))) (pe_one (pe_cmpR (op_eqTW Meq hr (by decide)) (pe_tup (pa_cons (pv 7) (pa_cons (pv 8) (pa_cons (pv 10) pa_nil)))) (pe_tup (pa_cons (pv 5) (pa_cons (pv 5) (pa_cons (pv 5) pa_nil)))) (nomark _)))))))))))))))))
end
end KX
/-! The draws and the law keep their promises. -/
namespace KX
open PySem PySem.Spec PyProof.Rows L2
section
variable {P : Program} {w : World} {K : PySem.W.Frag} {mg : Str → Option Value} {base : Heap}
theorem mkFctR (Z : Bas K mg) {i k : Nat} {x nm : Str} {st : Stmt} {N ps : List Str} {sp : Sp} {t : TS} (hi : fn[i]? = some ⟨(x, none), nm, nm, defArgs st, defBody st, defScope st, [], []⟩) (hg : gloL.contains x = true) (S : FnScope N ps (defScope st)) (hl : ∀ vs H Q E, sp vs H Q E → vs.length = ps.length) (hb : BindOk nm nm st ps)
    (body : ∀ (f : Addr) (cdv : Value) (A : Around) (outer : List PySem.Env) (s : Shared) (H : Hp) (E : XK), Room k (A.deeper (envOfC nm (defScope st) s.heap.objs.size f cdv)) → PSs (cxOf CX0 P w K mg base N nm (defScope st) f cdv A outer s H E).nox (defBody st) t)
    (law : ∀ vs H Q E, sp vs H Q E → t { nx := fun _ H' => Q .non H', rt := Q } (L2.start N vs) H) : Fct P w K mg base (k + 1) x ps sp := by
  obtain ⟨fd, F⟩ := Z.c.def_ i hi
  exact ⟨_, fd, F.ok S hl (fun cdv A outer s H vs Q E hr h => ⟨t, PSs.nox (body _ cdv A outer s H E hr), law vs H Q E h⟩), Z.glo x hg, F.kp, F.bindsN hb⟩
theorem spP_len {α : Type} {enc : α → List D} {pre : α → Prop} {add : Nat} {post : α → D → Prop} {n : Nat} (hl : ∀ a, (enc a).length = n) : ∀ vs H Q E, spP K enc pre add post vs H Q E → vs.length = n + 1 := by
  rintro vs H Q E ⟨p, N, Hb, rest, a, rfl, _, _, _, _, r, _⟩
  rw [List.length_cons, r.len, hl]
theorem f__law_begin (Z : Bas K mg) : Fct P w K mg base 2 "_law_begin" (["_law_script"] : List Str) (sp__law_begin K) :=
  mkFctR Z (i := 67) (nm := "_law_begin") (st := st__law_begin) (N := N__law_begin) rfl (by decide +kernel) sc__law_begin (by rintro vs H Q E ⟨l, ns, Hb, rfl, _⟩; rfl) (fun _ _ _ _ _ _ us hl => match us, hl with | [_], _ => rfl) (fun f cdv A outer s H E hr => w__law_begin (w := w) Z hr) (fun vs H Q E h => l__law_begin vs H Q E h)
theorem f__law_draw (Z : Bas K mg) : Fct P w K mg base 2 "_law_draw" (["_law_pen", "_law_span"] : List Str) (sp__law_draw K) :=
  mkFctR Z (i := 68) (nm := "_law_draw") (st := st__law_draw) (N := N__law_draw) rfl (by decide +kernel) sc__law_draw (spP_len fun _ => rfl) (fun _ _ _ _ _ _ us hl => match us, hl with | [_, _], _ => rfl) (fun f cdv A outer s H E hr => w__law_draw (w := w) Z hr) (fun vs H Q E h => l__law_draw vs H Q E h)
theorem f__law_pick (Z : Bas K mg) (F__law_draw : Fct P w K mg base 2 "_law_draw" (["_law_pen", "_law_span"] : List Str) (sp__law_draw K)) : Fct P w K mg base 3 "_law_pick" (["_law_pen", "_law_some"] : List Str) (sp__law_pick K) :=
  mkFctR Z (i := 69) (nm := "_law_pick") (st := st__law_pick) (N := N__law_pick) rfl (by decide +kernel) sc__law_pick (spP_len fun _ => rfl) (fun _ _ _ _ _ _ us hl => match us, hl with | [_, _], _ => rfl) (fun f cdv A outer s H E hr => w__law_pick (w := w) Z F__law_draw hr) (fun vs H Q E h => fnP_run h fun p a q => l__law_pick q)
theorem f__law_ten (Z : Bas K mg) : Fct P w K mg base 2 "_law_ten" (["_law_number"] : List Str) (sp__law_ten K) :=
  mkFct Z (i := 70) (nm := "_law_ten") (st := st__law_ten) (N := N__law_ten) rfl (by decide +kernel) sc__law_ten (fun _ => rfl) (fun _ _ _ _ _ _ us hl => match us, hl with | [_], _ => rfl) (fun f cdv A outer s H E hr => w__law_ten (w := w) Z hr) (fun a q => es_mono (l__law_ten q) fun _ _ z => z.elim)
theorem f__law_size (Z : Bas K mg) (F__law_draw : Fct P w K mg base 2 "_law_draw" (["_law_pen", "_law_span"] : List Str) (sp__law_draw K)) (F__law_pick : Fct P w K mg base 3 "_law_pick" (["_law_pen", "_law_some"] : List Str) (sp__law_pick K)) (F__law_ten : Fct P w K mg base 2 "_law_ten" (["_law_number"] : List Str) (sp__law_ten K)) : Fct P w K mg base 4 "_law_size" (["_law_pen", "_law_most"] : List Str) (sp__law_size K) :=
  mkFctR Z (i := 71) (nm := "_law_size") (st := st__law_size) (N := N__law_size) rfl (by decide +kernel) sc__law_size (spP_len fun _ => rfl) (fun _ _ _ _ _ _ us hl => match us, hl with | [_, _], _ => rfl) (fun f cdv A outer s H E hr => w__law_size (w := w) Z F__law_draw F__law_pick F__law_ten hr) (fun vs H Q E h => fnP_run h fun p a q => l__law_size q)
theorem f__law_entries (Z : Bas K mg) (F__law_draw : Fct P w K mg base 2 "_law_draw" (["_law_pen", "_law_span"] : List Str) (sp__law_draw K)) (F__law_pick : Fct P w K mg base 3 "_law_pick" (["_law_pen", "_law_some"] : List Str) (sp__law_pick K)) (F__law_size : Fct P w K mg base 4 "_law_size" (["_law_pen", "_law_most"] : List Str) (sp__law_size K)) (MkW : MkrW P w K mg base 5) : Fct P w K mg base 7 "_law_entries" (["_law_pen", "_law_manner"] : List Str) (sp__law_entries K) :=
  mkFctR Z (i := 72) (nm := "_law_entries") (st := st__law_entries) (N := N__law_entries) rfl (by decide +kernel) sc__law_entries (spP_len fun _ => rfl) (fun _ _ _ _ _ _ us hl => match us, hl with | [_, _], _ => rfl) (fun f cdv A outer s H E hr => w__law_entries (w := w) Z F__law_draw F__law_pick F__law_size MkW hr) (fun vs H Q E h => fnP_run h fun p a q => l__law_entries)
theorem law_facts {h : Heap} {f : Addr} (X : K.In h) (G : h.Ns mainGlobals mg) (hfa : mg ("law" : Str) = some (.ref f)) (e : exB K = true) (c : He.SaysD fa fn K) :
    ∃ fd : FuncData, (∀ (s : Shared) (v : Value), BindsTo s fd ⟨[v], []⟩ [("_law_script", v)]) ∧ ∀ base : Heap, K.In base → base.Ns mainGlobals mg → FnOk P w K mg base CX0 13 f fd ["_law_script"] (spTop K) := by
  have Z : Bas K mg := ⟨⟨h, X, G⟩, c, e⟩
  obtain ⟨fd, F⟩ := Z.c.def_ 73 (d := d_law) rfl
  have e := hfa.symm.trans (Z.glo "law")
  cases e
  have b := FunD.bindsA (ps := ["_law_script"]) F fun _ _ _ _ _ _ us hl => match us, hl with | [_], _ => rfl
  refine ⟨fd, fun s v => b s [v] rfl, fun base _ _ => ?_⟩
  have L := alls (P := P) (w := w) (base := base) Z
  have b1 := f__law_begin (P := P) (w := w) (base := base) Z
  have b2 := f__law_draw (P := P) (w := w) (base := base) Z
  have b3 := f__law_pick (P := P) (w := w) (base := base) Z b2
  have b4 := f__law_ten (P := P) (w := w) (base := base) Z
  have b5 := f__law_size (P := P) (w := w) (base := base) Z b2 b3 b4
  have b6 := f__law_entries (P := P) (w := w) (base := base) Z b2 b3 b5 L.MkW
  exact F.ok sc_law (by rintro vs H Q E ⟨l, ns, Hb, rfl, _⟩; rfl) (fun cdv A outer s H vs Q E hr h => ⟨t_law w K, PSs.nox (w_law (w := w) Z b1 b2 L.F__law_ends b6 L.F__law_giving_right b3 L.F__law_rising L.F__law_shifts_right b5 L.F_dealt_total L.F_is_free L.F_order_range L.F_running_total L.F_single_total L.Meq L.MkD hr), l_law Z vs H Q E h⟩)
end
end KX
open PySem PySem.W PySem.Calls PyProof.Rows
theorem PySem.Challenge.cw_dealtsums_k58_whole_one_chain_of_bounds_holds : PySem.Challenge.rw_dealtsums_k58_whole_one_chain_of_bounds.Holds := by
  w_on; o_law
  refine HandSHeadRun.head_any (r := OpenLaw.row PySem.Challenge.rw_dealtsums_k58_whole_one_chain_of_bounds) (q := view (OpenLaw.row PySem.Challenge.rw_dealtsums_k58_whole_one_chain_of_bounds).prog [95]) (H := KX.hookX) (ob := KX.obX) (M := 12000) (loose := KX.names) (d := HandSHeadRun.topDef (OpenLaw.row PySem.Challenge.rw_dealtsums_k58_whole_one_chain_of_bounds).prog 95) (kwd := []) KX.obX_eq
    (by kernel_rfl) (fun s => by kernel_rfl) KX.run (by kernel_rfl) (by kernel_rfl) (by kernel_rfl) (by rfl) (by first | assumption | decide +kernel) (by decide +kernel) ⟨rfl, rfl, rfl, rfl, rfl, by decide +kernel⟩ ?hw ?hc
  case hw => w_witness2
  case hc =>
    refine L2.walk_ofE (l := PySem.Challenge.rw_dealtsums_k58_whole_one_chain_of_bounds) (n := 63) (k := 13) (x := "_law_script") (CX := L2.CX0) rfl (by decide) (by kernel_rfl) ⟨rfl, by decide, by decide⟩ ?F (fun _ _ _ _ z => z)
    intro w mg fa h Y G hmg0
    obtain ⟨K, KX', ex, c⟩ := Y
    have hmg : mg ("law" : PySem.Str) = some (.ref fa) := by
      have e : (HandSHeadRun.topDef (OpenLaw.row PySem.Challenge.rw_dealtsums_k58_whole_one_chain_of_bounds).prog 95).name = ("law" : PySem.Str) := by kernel_rfl
      rw [← e]
      exact hmg0
    obtain ⟨fd, hb, hF⟩ := KX.law_facts (P := (PySem.Challenge.rw_dealtsums_k58_whole_one_chain_of_bounds).prog) (w := w) KX' G hmg ex c
    exact ⟨K, fd, KX.spTop K, KX', hb, fun H a ns hl _ hS => ⟨a, ns, H, rfl, fun _ _ e => e, hS, fun _ => rfl⟩, hF⟩
