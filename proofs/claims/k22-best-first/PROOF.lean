import PyProof.Rows.All
import PyProof.MaxThree
import Wide.All
import OpenK.AllK
import Wide.FinOn
import KE.KStateDown
import KE.KIsAll
import KE.SortData
import KE.SortKeyHeap
import KE.SortLaws
import HandS.Base
import HandS.Call
import HandS.List
import HandS.Comp
import HandS.Ends
import HandS.Dict
import HandS.Iter
import HandS.Words
import HandS.WordsList
import HandS.WordsDict
import HandS.WordsExc
import HandS.Exc
import HandS.ExcOwn
import HandS.ExcIs
import HandS.TryOnly
import HandS.Flow
import HandS.IsInst
import HandS.Small
import HandS.SortKw
import HandS.Defaults
import HandS.Head0
import HandS.Head1
import HandS.Head2
import HandS.HeadEnd
import HandS.HeadHook1
import HandS.HeadHook2
import PySem.Challenge.RW_fairbook_k22_whole_best_first
import HandS.SortInts
set_option Elab.async false
set_option linter.all false
/-! The program fairbook as plain Lean functions over lists. -/
set_option autoImplicit false
namespace FB

/-- an order; ad: where its object stands (it plays no part in what is reckoned) -/
structure Ord where
  ad : Nat
  num : Int
  own : Int
  buy : Bool
  price : Option Int
  rest : Int
  shows : Option Int
  part : Int
  place : Int
deriving DecidableEq

/-- the book; ords in the order of the dict -/
structure Bk where
  ords : List Ord
  many : Int
  places : Int
  last : Option Int
  traded : Int
  calling : Bool

/-- what is told of an order that came -/
inductive Ev where
  | trade (num price many : Int)
  | out (num : Int)
deriving DecidableEq

def Ord.pr (o : Ord) : Int := o.price.getD 0
def imin (i j : Int) : Int := if j < i then j else i
def Ord.shown (o : Ord) : Int := match o.shows with
  | none => o.rest
  | some s => imin s o.rest
def Ord.show (o : Ord) : Ord := { o with part := o.shown }
def Ord.suits (o : Ord) (p : Int) : Bool := match o.price with
  | none => true
  | some q => if o.buy then decide (p ≤ q) else decide (q ≤ p)
def Ord.k1 (o : Ord) : Int := if o.buy then -o.pr else o.pr
def Lt3 (a b : Ord) : Prop := a.k1 < b.k1 ∨ (a.k1 = b.k1 ∧ (a.place < b.place ∨ (a.place = b.place ∧ a.num < b.num)))
instance (a b : Ord) : Decidable (Lt3 a b) := by unfold Lt3; infer_instance
def leO (a b : Ord) : Bool := !decide (Lt3 b a)
def row (os : List Ord) (side : Bool) : List Ord := (os.filter fun o => o.buy == side).mergeSort leO

/-! ### the dict of orders -/
def putO (os : List Ord) (o : Ord) : List Ord :=
  if (os.any fun x => decide (x.num = o.num)) = true then os.map (fun x => if x.num = o.num then o else x) else os ++ [o]
def dropO (os : List Ord) (n : Int) : List Ord := os.filter fun x => decide (x.num ≠ n)
def updO (os : List Ord) (o : Ord) : List Ord := os.map fun x => if x.num = o.num then o else x
def findO (os : List Ord) (n : Int) : Option Ord := os.find? fun x => decide (x.num = n)

def Bk.put (B : Bk) (o : Ord) : Bk :=
  { B with places := B.places + 1, ords := putO B.ords ({ o with place := B.places + 1 } : Ord).show }

/-! ### an order comes -/
/-- how many are traded with one -/
def cut (o one : Ord) : Int := imin o.rest one.part
def afterMeet (B : Bk) (o one : Ord) : Bk :=
  let m := cut o one
  let one' : Ord := { one with rest := one.rest - m, part := one.part - m }
  let B1 : Bk := { B with last := some one.pr, traded := B.traded + m }
  if one'.rest = 0 then { B1 with ords := dropO B1.ords one.num }
  else if one'.part = 0 then B1.put one'
  else { B1 with ords := updO B1.ords one' }
def afterMeetO (o one : Ord) : Ord := { o with rest := o.rest - cut o one }
def step1 (s : Bk × Ord) : Option (Ev × (Bk × Ord)) :=
  if 0 < s.2.rest then
    match row s.1.ords (!s.2.buy) with
    | [] => none
    | one :: _ =>
      if s.2.suits one.pr = true then
        if one.own = s.2.own then some (.out one.num, ({ s.1 with ords := dropO s.1.ords one.num }, s.2))
        else some (.trade one.num one.pr (cut s.2 one), (afterMeet s.1 s.2 one, afterMeetO s.2 one))
      else none
  else none
/-- steps till there is none, at most n -/
def iter {S E : Type} (step : S → Option (E × S)) : Nat → S → List E × S
  | 0, s => ([], s)
  | n + 1, s => match step s with
    | none => ([], s)
    | some (e, s1) => (e :: (iter step n s1).1, (iter step n s1).2)
def mu1 (s : Bk × Ord) : Nat := s.2.rest.toNat + s.1.ords.length
def matchAll (s : Bk × Ord) : List Ev × (Bk × Ord) := iter step1 (mu1 s) s

def there (os : List Ord) (o : Ord) : Int :=
  (((row os (!o.buy)).filter fun x => o.suits x.pr && decide (x.own ≠ o.own)).map (·.rest)).sum
def canFill (os : List Ord) (o : Ord) : Bool := decide (o.rest ≤ there os o)

def goodSide (z : PySem.Str) : Bool := decide (z = ("buy" : PySem.Str)) || decide (z = ("sell" : PySem.Str))
def goodWay (z : PySem.Str) : Bool := decide (z = ("rest" : PySem.Str)) || (decide (z = ("now" : PySem.Str)) || decide (z = ("whole" : PySem.Str)))
def isCount (n : Int) : Bool := decide (1 ≤ n) && decide (n ≤ 10000)
/-- what look_order lets pass -/
def goodO (side : PySem.Str) (price : Option Int) (many : Int) (shows : Option Int) (way : PySem.Str) : Bool :=
  goodSide side && goodWay way && isCount many
  && (match price with
      | none => !decide (way = ("rest" : PySem.Str))
      | some p => decide (1 ≤ p) && decide (p ≤ 1000000000))
  && (match shows with
      | none => true
      | some s => decide (way = ("rest" : PySem.Str)) && (decide (1 ≤ s) && decide (s ≤ many)))

def newOrd (B : Bk) (ad : Nat) (owner : Int) (buy : Bool) (price : Option Int) (many : Int) (shows : Option Int) : Ord :=
  { ad := ad, num := B.many, own := owner, buy := buy, price := price, rest := many, shows := shows, part := 0, place := 0 }
inductive Way where
  | rest | now | whole
deriving DecidableEq
def Way.str : Way → PySem.Str
  | .rest => "rest"
  | .now => "now"
  | .whole => "whole"
def sideStr (b : Bool) : PySem.Str := if b then "buy" else "sell"
/-- an order that is one, where it may come -/
def placeB (B : Bk) (o : Ord) (way : Way) : List Ev × Bk :=
  let B1 : Bk := { B with many := B.many + 1 }
  let r : List Ev × (Bk × Ord) := if !B.calling && (decide (way ≠ .whole) || canFill B1.ords o) then matchAll (B1, o) else ([], (B1, o))
  (r.1, if way = .rest ∧ 0 < r.2.2.rest then r.2.1.put r.2.2 else r.2.1)

def cancelB (B : Bk) (n : Int) : Bk := { B with ords := dropO B.ords n }
def changeB (B : Bk) (o : Ord) (m : Int) : Bk :=
  if o.rest < m then ({ B with ords := updO B.ords { o with rest := m } }).put { o with rest := m }
  else { B with ords := updO B.ords { o with rest := m, part := imin o.part m } }

/-! ### calls -/
def wanted (os : List Ord) (side : Bool) (p : Int) : Int := (((row os side).filter fun o => o.suits p).map (·.rest)).sum
def iabs (i : Int) : Int := if i < 0 then -i else i
def rank (os : List Ord) (last : Option Int) (p : Int) : List Int :=
  [-imin (wanted os true p) (wanted os false p), iabs (wanted os true p - wanted os false p),
   (match last with | none => 0 | some l => iabs (p - l)), p]
def ltL : List Int → List Int → Bool
  | [], [] => false
  | [], _ :: _ => true
  | _ :: _, [] => false
  | x :: xs, y :: ys => if x = y then ltL xs ys else decide (x < y)
def better (best : Option (List Int)) (r : List Int) : Option (List Int) := match best with
  | none => some r
  | some b => if ltL r b then some r else some b
def bestOf (os : List Ord) (last : Option Int) : Option (List Int) := (os.map fun o => rank os last o.pr).foldl better none
def callPrice (os : List Ord) (last : Option Int) : Option (Int × Int) := match bestOf os last with
  | some [a, _, _, p] => if a = 0 then none else some (p, -a)
  | _ => none

/-- a trade of a call -/
structure CTr where
  b : Int
  s : Int
  p : Int
  m : Int
deriving DecidableEq
structure US where
  left : Int
  buys : List Ord
  sells : List Ord
  B : Bk
def least3 (x y z : Int) : Int := imin (imin x y) z
def lessen (o : Ord) (m : Int) : Ord := ({ o with rest := o.rest - m } : Ord).show
def takeOff (os : List Ord) (o : Ord) : List Ord := if o.rest = 0 then dropO os o.num else updO os o
def liveO (os : List Ord) : List Ord := os.filter fun o => decide (0 < o.rest)
def ustep (p : Int) (u : US) : Option (CTr × US) :=
  if 0 < u.left then
    match u.buys, u.sells with
    | b :: bs, s :: ss =>
      let m := least3 u.left b.rest s.rest
      some (⟨b.num, s.num, p, m⟩,
        { left := u.left - m, buys := liveO (lessen b m :: bs), sells := liveO (lessen s m :: ss),
          B := { u.B with last := some p, traded := u.B.traded + m, ords := takeOff (takeOff u.B.ords (lessen b m)) (lessen s m) } })
    | _, _ => none
  else none
def muU (u : US) : Nat := u.left.toNat
def uncrossB (B : Bk) : List CTr × Bk := match callPrice B.ords B.last with
  | none => ([], { B with calling := false })
  | some (p, n) =>
    let r := iter (ustep p) n.toNat { left := n, buys := row B.ords true, sells := row B.ords false, B := { B with calling := false } }
    (r.1, r.2.B)

/-! ### what the book tells -/
def resting (os : List Ord) (side : Bool) : List Int := (row os side).map (·.num)
def depthStep (acc : List (Int × Int)) (o : Ord) : List (Int × Int) := match acc.getLast? with
  | some (p, m) => if p = o.pr then acc.dropLast ++ [(p, m + o.part)] else acc ++ [(o.pr, o.part)]
  | none => acc ++ [(o.pr, o.part)]
def depth (os : List Ord) (side : Bool) : List (Int × Int) := (row os side).foldl depthStep []
def crossed (os : List Ord) : Bool := match row os true, row os false with
  | b :: _, s :: _ => decide (s.pr ≤ b.pr)
  | _, _ => false
end FB

set_option autoImplicit false
/-! Plain laws of the mirror: what holds of every book. -/
namespace FB

/-! ### lists of orders -/
theorem updO_none {os : List Ord} {o : Ord} (h : ∀ x ∈ os, x.num ≠ o.num) : updO os o = os := by
  unfold updO
  exact (List.map_congr_left (g := id) (fun x hx => if_neg (h x hx))).trans (List.map_id _)
theorem updO_upd {os : List Ord} {o1 o2 : Ord} (h : o1.num = o2.num) : updO (updO os o1) o2 = updO os o2 := by
  unfold updO
  rw [List.map_map]
  refine List.map_congr_left fun x hx => ?_
  show (if (if x.num = o1.num then o1 else x).num = o2.num then o2 else (if x.num = o1.num then o1 else x)) = _
  by_cases e : x.num = o1.num
  · rw [if_pos e, if_pos h, if_pos (e.trans h)]
  · rw [if_neg e]
theorem updO_self {os : List Ord} {o : Ord} : updO (updO os o) o = updO os o := updO_upd rfl
theorem updO_num {os : List Ord} {o : Ord} : (updO os o).map (·.num) = os.map (·.num) := by
  unfold updO
  rw [List.map_map]
  refine List.map_congr_left fun x hx => ?_
  show (if x.num = o.num then o else x).num = x.num
  by_cases e : x.num = o.num
  · rw [if_pos e, e]
  · rw [if_neg e]
theorem updO_len {os : List Ord} {o : Ord} : (updO os o).length = os.length := by
  unfold updO
  rw [List.length_map]
theorem mem_updO {os : List Ord} {o x : Ord} (h : x ∈ updO os o) : (x = o ∧ ∃ y ∈ os, y.num = o.num) ∨ (x ∈ os ∧ x.num ≠ o.num) := by
  unfold updO at h
  obtain ⟨y, hy, e⟩ := List.mem_map.mp h
  by_cases q : y.num = o.num
  · rw [if_pos q] at e
    exact .inl ⟨e.symm, y, hy, q⟩
  · rw [if_neg q] at e
    subst e
    exact .inr ⟨hy, q⟩
theorem mem_upd {os : List Ord} {o' : Ord} (h : ∃ x ∈ os, x.num = o'.num) : o' ∈ updO os o' := by
  obtain ⟨x, hx, e⟩ := h
  unfold updO
  exact List.mem_map.mpr ⟨x, hx, if_pos e⟩
theorem mem_upd_other {os : List Ord} {o x : Ord} (h : x ∈ os) (n : x.num ≠ o.num) : x ∈ updO os o := by
  unfold updO
  exact List.mem_map.mpr ⟨x, h, if_neg n⟩
theorem putO_there {os : List Ord} {o : Ord} (h : ∃ x ∈ os, x.num = o.num) : putO os o = updO os o := by
  unfold putO updO
  rw [if_pos]
  obtain ⟨x, hx, e⟩ := h
  exact List.any_eq_true.mpr ⟨x, hx, decide_eq_true e⟩
theorem putO_new {os : List Ord} {o : Ord} (h : ∀ x ∈ os, x.num ≠ o.num) : putO os o = os ++ [o] := by
  unfold putO
  rw [if_neg]
  intro z
  obtain ⟨x, hx, e⟩ := List.any_eq_true.mp z
  exact h x hx (of_decide_eq_true e)
theorem putO_upd {os : List Ord} {o1 o : Ord} (h : o1.num = o.num) : putO (updO os o1) o = putO os o := by
  by_cases q : ∃ x ∈ os, x.num = o.num
  · rw [putO_there ⟨o1, mem_upd (h ▸ q), h⟩, updO_upd h, putO_there q]
  · rw [updO_none fun x hx e => q ⟨x, hx, e.trans h⟩]
theorem putO_updO (os : List Ord) (o : Ord) : putO (updO os o) o = putO os o := putO_upd rfl
theorem mem_putO {os : List Ord} {o x : Ord} (h : x ∈ putO os o) : x = o ∨ (x ∈ os ∧ x.num ≠ o.num) := by
  by_cases q : ∃ y ∈ os, y.num = o.num
  · rw [putO_there q] at h
    rcases mem_updO h with ⟨e, _⟩ | h
    · exact .inl e
    · exact .inr h
  · rw [putO_new fun y hy e => q ⟨y, hy, e⟩] at h
    rcases List.mem_append.mp h with h | h
    · exact .inr ⟨h, fun e => q ⟨x, h, e⟩⟩
    · exact .inl (List.mem_singleton.mp h)
theorem mem_put_self (os : List Ord) (o : Ord) : o ∈ putO os o := by
  by_cases q : ∃ y ∈ os, y.num = o.num
  · rw [putO_there q]
    exact mem_upd q
  · rw [putO_new fun y hy e => q ⟨y, hy, e⟩]
    exact List.mem_append_right _ List.mem_cons_self
theorem mem_put_other {os : List Ord} {o x : Ord} (h : x ∈ os) (n : x.num ≠ o.num) : x ∈ putO os o := by
  by_cases q : ∃ y ∈ os, y.num = o.num
  · rw [putO_there q]
    exact mem_upd_other h n
  · rw [putO_new fun y hy e => q ⟨y, hy, e⟩]
    exact List.mem_append_left _ h
theorem putO_len (os : List Ord) (o : Ord) : (putO os o).length ≤ os.length + 1 := by
  by_cases q : ∃ y ∈ os, y.num = o.num
  · rw [putO_there q, updO_len]
    omega
  · rw [putO_new fun y hy e => q ⟨y, hy, e⟩]
    simp
theorem putO_len_there {os : List Ord} {o : Ord} (h : ∃ x ∈ os, x.num = o.num) : (putO os o).length = os.length := by rw [putO_there h, updO_len]
theorem mem_dropO {os : List Ord} {n : Int} {x : Ord} : x ∈ dropO os n ↔ x ∈ os ∧ x.num ≠ n := by
  unfold dropO
  rw [List.mem_filter]
  simp
theorem dropO_upd {os : List Ord} {o : Ord} {n : Int} (h : o.num = n) : dropO (updO os o) n = dropO os n := by
  induction os with
  | nil => rfl
  | cons a r ih =>
    have e1 : updO (a :: r) o = (if a.num = o.num then o else a) :: updO r o := rfl
    have e2 : ∀ (b : Ord) (l : List Ord), dropO (b :: l) n = if b.num ≠ n then b :: dropO l n else dropO l n := fun b l => by
      unfold dropO
      rw [List.filter_cons]
      simp
    rw [e1, e2, e2, ih]
    by_cases q : a.num = o.num
    · rw [if_pos q, if_neg (fun z => z h), if_neg (fun z => z (q.trans h))]
    · rw [if_neg q]
theorem nodup_inj {α β : Type} {f : α → β} : ∀ {l : List α}, (l.map f).Nodup → ∀ {x y : α}, x ∈ l → y ∈ l → f x = f y → x = y
  | [], _, _, _, h, _, _ => nomatch h
  | a :: l, hn, x, y, hx, hy, e => by
    rw [List.map_cons, List.nodup_cons] at hn
    rcases List.mem_cons.mp hx with ex | hx'
    · rcases List.mem_cons.mp hy with ey | hy'
      · rw [ex, ey]
      · exact absurd (List.mem_map.mpr ⟨y, hy', by rw [← e, ex]⟩) hn.1
    · rcases List.mem_cons.mp hy with ey | hy'
      · exact absurd (List.mem_map.mpr ⟨x, hx', by rw [e, ey]⟩) hn.1
      · exact nodup_inj hn.2 hx' hy' e
theorem nodup_updO {β : Type} {f : Ord → β} : ∀ {os : List Ord} {o : Ord}, (os.map (·.num)).Nodup → (os.map f).Nodup → (∀ x ∈ os, x.num ≠ o.num → f x ≠ f o) → ((updO os o).map f).Nodup
  | [], _, _, _, _ => List.nodup_nil
  | a :: r, o, h1, h2, h3 => by
    have e1 : updO (a :: r) o = (if a.num = o.num then o else a) :: updO r o := rfl
    rw [List.map_cons, List.nodup_cons] at h1 h2
    rw [e1, List.map_cons, List.nodup_cons]
    refine ⟨?_, nodup_updO h1.2 h2.2 fun x hx => h3 x (List.mem_cons_of_mem _ hx)⟩
    by_cases q : a.num = o.num
    · rw [if_pos q]
      intro z
      obtain ⟨x, hx, e⟩ := List.mem_map.mp z
      have hr : ∀ x ∈ r, x.num ≠ o.num := fun x hx e => h1.1 (List.mem_map.mpr ⟨x, hx, e.trans q.symm⟩)
      rw [updO_none hr] at hx
      exact h3 x (List.mem_cons_of_mem _ hx) (hr x hx) e
    · rw [if_neg q]
      intro z
      obtain ⟨x, hx, e⟩ := List.mem_map.mp z
      rcases mem_updO hx with ⟨ex, _⟩ | ⟨hx, _⟩
      · rw [ex] at e
        exact h3 a List.mem_cons_self q e.symm
      · exact h2.1 (List.mem_map.mpr ⟨x, hx, e⟩)
theorem nodup_putO {β : Type} {f : Ord → β} {os : List Ord} {o : Ord} (h1 : (os.map (·.num)).Nodup) (h2 : (os.map f).Nodup) (h3 : ∀ x ∈ os, x.num ≠ o.num → f x ≠ f o) : ((putO os o).map f).Nodup := by
  by_cases q : ∃ y ∈ os, y.num = o.num
  · rw [putO_there q]
    exact nodup_updO h1 h2 h3
  · have q' : ∀ x ∈ os, x.num ≠ o.num := fun y hy e => q ⟨y, hy, e⟩
    rw [putO_new q', List.map_append, List.nodup_append]
    refine ⟨h2, by simp, fun a ha b hb e => ?_⟩
    obtain ⟨x, hx, ex⟩ := List.mem_map.mp ha
    have eb : b = f o := by simpa using hb
    exact h3 x hx (q' x hx) (ex.trans (e.trans eb))
theorem nodup_dropO {β : Type} {f : Ord → β} {os : List Ord} {n : Int} (h : (os.map f).Nodup) : ((dropO os n).map f).Nodup := h.sublist ((List.filter_sublist).map _)
theorem dropO_len {os : List Ord} {n : Int} (h : ∃ x ∈ os, x.num = n) : (dropO os n).length < os.length := by
  obtain ⟨x, hx, e⟩ := h
  unfold dropO
  refine Nat.lt_of_le_of_ne (List.length_filter_le _ _) fun z => ?_
  have := List.length_filter_eq_length_iff.mp z x hx
  simp [e] at this
theorem row_mem {os : List Ord} {side : Bool} {o : Ord} : o ∈ row os side ↔ o ∈ os ∧ o.buy = side := by
  unfold row
  rw [List.mem_mergeSort, List.mem_filter]
  simp
theorem row_len (os : List Ord) (side : Bool) : (row os side).length ≤ os.length := by
  unfold row
  rw [List.length_mergeSort]
  exact List.length_filter_le _ _

/-! ### what holds of every order that rests, of every book -/
structure OrdOk (many places : Int) (o : Ord) : Prop where
  price : o.price = some o.pr
  prb : 1 ≤ o.pr
  rest : 1 ≤ o.rest
  rmax : o.rest ≤ 10000
  part : 1 ≤ o.part
  ple : o.part ≤ o.rest
  shows : ∀ s, o.shows = some s → 1 ≤ s
  num0 : 0 ≤ o.num
  num : o.num < many
  pl0 : 1 ≤ o.place
  pl : o.place ≤ places
structure BkOk (B : Bk) : Prop where
  os : ∀ o ∈ B.ords, OrdOk B.many B.places o
  ndn : (B.ords.map (·.num)).Nodup
  ndp : (B.ords.map (·.place)).Nodup
  many0 : 0 ≤ B.many
  places0 : 0 ≤ B.places
theorem imin_le_l (i j : Int) : imin i j ≤ i := by unfold imin; split <;> omega
theorem imin_le_r (i j : Int) : imin i j ≤ j := by unfold imin; split <;> omega
theorem imin_or (i j : Int) : imin i j = i ∨ imin i j = j := by unfold imin; split <;> simp
theorem shown_ok {o : Ord} (hr : 1 ≤ o.rest) (hs : ∀ s, o.shows = some s → 1 ≤ s) : 1 ≤ o.shown ∧ o.shown ≤ o.rest := by
  unfold Ord.shown
  cases e : o.shows with
  | none => exact ⟨hr, Int.le_refl _⟩
  | some s =>
    have h1 := hs s e
    have h2 := imin_le_r s o.rest
    have h3 := imin_or s o.rest
    show 1 ≤ imin s o.rest ∧ imin s o.rest ≤ o.rest
    omega
/-- what an order must be to be put into the book -/
structure MayRest (many : Int) (o : Ord) : Prop where
  price : o.price = some o.pr
  prb : 1 ≤ o.pr
  rest : 1 ≤ o.rest
  rmax : o.rest ≤ 10000
  shows : ∀ s, o.shows = some s → 1 ≤ s
  num0 : 0 ≤ o.num
  num : o.num < many
theorem OrdOk.may {many places : Int} {o : Ord} (h : OrdOk many places o) : MayRest many o := ⟨h.price, h.prb, h.rest, h.rmax, h.shows, h.num0, h.num⟩
theorem put_ok {B : Bk} {o : Ord} (h : BkOk B) (m : MayRest B.many o) : BkOk (B.put o) := by
  have hsh : 1 ≤ ({ o with place := B.places + 1 } : Ord).shown ∧ ({ o with place := B.places + 1 } : Ord).shown ≤ o.rest := shown_ok (o := { o with place := B.places + 1 }) m.rest m.shows
  have hp0 := h.places0
  refine ⟨fun x hx => ?_, ?_, ?_, h.many0, by show 0 ≤ B.places + 1; omega⟩
  · have hx : x ∈ putO B.ords ({ o with place := B.places + 1 } : Ord).show := hx
    rcases mem_putO hx with e | ⟨hx, _⟩
    · rw [e]
      exact ⟨m.price, m.prb, m.rest, m.rmax, hsh.1, hsh.2, m.shows, m.num0, m.num, by show 1 ≤ B.places + 1; omega, Int.le_refl _⟩
    · have q := h.os x hx
      exact ⟨q.price, q.prb, q.rest, q.rmax, q.part, q.ple, q.shows, q.num0, q.num, q.pl0, by have := q.pl; show x.place ≤ B.places + 1; omega⟩
  · exact nodup_putO (o := ({ o with place := B.places + 1 } : Ord).show) h.ndn h.ndn fun x _ n => n
  · refine nodup_putO (o := ({ o with place := B.places + 1 } : Ord).show) h.ndn h.ndp fun x hx _ e => ?_
    have q := (h.os x hx).pl
    have e : x.place = B.places + 1 := e
    omega
theorem put_upd (B : Bk) {o1 o : Ord} (h : o1.num = o.num) : ({ B with ords := updO B.ords o1 } : Bk).put o = B.put o := by
  unfold Bk.put
  show ({ B with places := B.places + 1, ords := putO (updO B.ords o1) ({ o with place := B.places + 1 } : Ord).show } : Bk) = _
  rw [putO_upd (os := B.ords) (o1 := o1) (o := ({ o with place := B.places + 1 } : Ord).show) h]
theorem drop_ok {B : Bk} (h : BkOk B) (n : Int) : BkOk { B with ords := dropO B.ords n } :=
  ⟨fun x hx => h.os x (mem_dropO.mp hx).1, nodup_dropO h.ndn, nodup_dropO h.ndp, h.many0, h.places0⟩
theorem upd_ok {B : Bk} (h : BkOk B) {o o' : Ord} (ho : o ∈ B.ords) (en : o'.num = o.num) (ep : o'.place = o.place) (ok : OrdOk B.many B.places o') : BkOk { B with ords := updO B.ords o' } := by
  refine ⟨fun x hx => ?_, ?_, ?_, h.many0, h.places0⟩
  · rcases mem_updO hx with ⟨e, _⟩ | ⟨hx, _⟩
    · rw [e]
      exact ok
    · exact h.os x hx
  · show ((updO B.ords o').map (·.num)).Nodup
    rw [updO_num]
    exact h.ndn
  · refine nodup_updO h.ndn h.ndp fun x hx n e => n ?_
    rw [en, nodup_inj h.ndp hx ho (e.trans ep)]
theorem tell_ok {B : Bk} (h : BkOk B) (l : Option Int) (t : Int) : BkOk { B with last := l, traded := t } := ⟨h.os, h.ndn, h.ndp, h.many0, h.places0⟩
theorem calling_ok {B : Bk} (h : BkOk B) (c : Bool) : BkOk { B with calling := c } := ⟨h.os, h.ndn, h.ndp, h.many0, h.places0⟩
theorem many_ok {B : Bk} (h : BkOk B) : BkOk { B with many := B.many + 1 } :=
  ⟨fun x hx => by
    have q := h.os x hx
    exact ⟨q.price, q.prb, q.rest, q.rmax, q.part, q.ple, q.shows, q.num0, by have := q.num; show x.num < B.many + 1; omega, q.pl0, q.pl⟩, h.ndn, h.ndp, by have := h.many0; show 0 ≤ B.many + 1; omega, h.places0⟩

/-! ### one step of an order that comes -/
/-- what never changes of an order -/
structure Like (x y : Ord) : Prop where
  ad : x.ad = y.ad
  num : x.num = y.num
  own : x.own = y.own
  buy : x.buy = y.buy
  price : x.price = y.price
  shows : x.shows = y.shows
theorem Like.refl (x : Ord) : Like x x := ⟨rfl, rfl, rfl, rfl, rfl, rfl⟩
theorem Like.trans {x y z : Ord} (a : Like x y) (b : Like y z) : Like x z := ⟨a.ad.trans b.ad, a.num.trans b.num, a.own.trans b.own, a.buy.trans b.buy, a.price.trans b.price, a.shows.trans b.shows⟩
theorem Like.symm {x y : Ord} (a : Like x y) : Like y x := ⟨a.ad.symm, a.num.symm, a.own.symm, a.buy.symm, a.price.symm, a.shows.symm⟩
theorem Like.pr {x y : Ord} (a : Like x y) : x.pr = y.pr := by unfold Ord.pr; rw [a.price]
/-- each of these is like one of those, with no more left -/
def Within (os' os : List Ord) : Prop := ∀ x ∈ os', ∃ y ∈ os, Like x y ∧ x.rest ≤ y.rest
theorem Within.refl (os : List Ord) : Within os os := fun x hx => ⟨x, hx, Like.refl x, Int.le_refl _⟩
theorem Within.trans {a b c : List Ord} (h : Within a b) (k : Within b c) : Within a c := fun x hx => by
  obtain ⟨y, hy, l, e⟩ := h x hx
  obtain ⟨z, hz, l2, e2⟩ := k y hy
  exact ⟨z, hz, l.trans l2, Int.le_trans e e2⟩
theorem within_drop (os : List Ord) (n : Int) : Within (dropO os n) os := fun x hx => ⟨x, (mem_dropO.mp hx).1, Like.refl x, Int.le_refl _⟩
theorem within_upd {os : List Ord} {o o' : Ord} (ho : o ∈ os) (l : Like o' o) (hr : o'.rest ≤ o.rest) : Within (updO os o') os := fun x hx => by
  rcases mem_updO hx with ⟨e, _⟩ | ⟨hx, _⟩
  · exact ⟨o, ho, by rw [e]; exact l, by rw [e]; exact hr⟩
  · exact ⟨x, hx, Like.refl x, Int.le_refl _⟩
theorem within_put {os : List Ord} {o o' : Ord} (ho : o ∈ os) (l : Like o' o) (hr : o'.rest ≤ o.rest) : Within (putO os o') os := fun x hx => by
  rcases mem_putO hx with e | ⟨hx, _⟩
  · exact ⟨o, ho, by rw [e]; exact l, by rw [e]; exact hr⟩
  · exact ⟨x, hx, Like.refl x, Int.le_refl _⟩
theorem cut_pos {o one : Ord} (h1 : 0 < o.rest) (h2 : 1 ≤ one.part) : 1 ≤ cut o one ∧ cut o one ≤ o.rest ∧ cut o one ≤ one.part := by
  unfold cut
  have a := imin_le_l o.rest one.part
  have b := imin_le_r o.rest one.part
  have c := imin_or o.rest one.part
  omega
structure MeetOk (B : Bk) (one : Ord) (B' : Bk) : Prop where
  ok : BkOk B'
  within : Within B'.ords B.ords
  len : B'.ords.length ≤ B.ords.length
  many : B'.many = B.many
  calling : B'.calling = B.calling
theorem meet_ok {B : Bk} {o one : Ord} (h : BkOk B) (ho : one ∈ B.ords) (h1 : 0 < o.rest) : MeetOk B one (afterMeet B o one) := by
  have q := h.os one ho
  have hc := cut_pos h1 q.part
  have hpl := q.ple
  have hpt := tell_ok h (some one.pr) (B.traded + cut o one)
  have hl : Like ({ one with rest := one.rest - cut o one, part := one.part - cut o one } : Ord) one := ⟨rfl, rfl, rfl, rfl, rfl, rfl⟩
  have hr : ({ one with rest := one.rest - cut o one, part := one.part - cut o one } : Ord).rest ≤ one.rest := by show one.rest - cut o one ≤ one.rest; omega
  unfold afterMeet
  show MeetOk B one (if one.rest - cut o one = 0 then _ else if one.part - cut o one = 0 then _ else _)
  by_cases e1 : one.rest - cut o one = 0
  · rw [if_pos e1]
    exact ⟨drop_ok hpt one.num, within_drop _ _, Nat.le_of_lt (dropO_len ⟨one, ho, rfl⟩), rfl, rfl⟩
  · rw [if_neg e1]
    by_cases e2 : one.part - cut o one = 0
    · rw [if_pos e2]
      refine ⟨put_ok hpt ⟨q.price, q.prb, by show 1 ≤ one.rest - cut o one; omega, by have := q.rmax; show one.rest - cut o one ≤ 10000; omega, q.shows, q.num0, q.num⟩, ?_, ?_, rfl, rfl⟩
      · exact within_put (o' := ({ one with rest := one.rest - cut o one, part := one.part - cut o one, place := B.places + 1 } : Ord).show) ho ⟨rfl, rfl, rfl, rfl, rfl, rfl⟩ (by show one.rest - cut o one ≤ one.rest; omega)
      · exact Nat.le_of_eq (putO_len_there (o := ({ one with rest := one.rest - cut o one, part := one.part - cut o one, place := B.places + 1 } : Ord).show) ⟨one, ho, rfl⟩)
    · rw [if_neg e2]
      refine ⟨upd_ok hpt ho rfl rfl ⟨q.price, q.prb, by show 1 ≤ one.rest - cut o one; omega, by have := q.rmax; show one.rest - cut o one ≤ 10000; omega, by show 1 ≤ one.part - cut o one; omega, by show one.part - cut o one ≤ one.rest - cut o one; omega, q.shows, q.num0, q.num, q.pl0, q.pl⟩, within_upd ho hl hr, Nat.le_of_eq updO_len, rfl, rfl⟩
structure StepOk (s s' : Bk × Ord) : Prop where
  ok : BkOk s'.1
  within : Within s'.1.ords s.1.ords
  len : s'.1.ords.length ≤ s.1.ords.length
  many : s'.1.many = s.1.many
  calling : s'.1.calling = s.1.calling
  like : Like s'.2 s.2
  rest0 : 0 ≤ s'.2.rest
  rest : s'.2.rest ≤ s.2.rest
  mu : mu1 s' < mu1 s
theorem step_cases {s : Bk × Ord} {e : Ev} {s' : Bk × Ord} (h : step1 s = some (e, s')) : ∃ one rest, 0 < s.2.rest ∧ row s.1.ords (!s.2.buy) = one :: rest ∧ s.2.suits one.pr = true ∧
    ((one.own = s.2.own ∧ e = .out one.num ∧ s' = ({ s.1 with ords := dropO s.1.ords one.num }, s.2)) ∨
     (one.own ≠ s.2.own ∧ e = .trade one.num one.pr (cut s.2 one) ∧ s' = (afterMeet s.1 s.2 one, afterMeetO s.2 one))) := by
  unfold step1 at h
  by_cases h0 : 0 < s.2.rest
  · rw [if_pos h0] at h
    cases er : row s.1.ords (!s.2.buy) with
    | nil =>
      rw [er] at h
      cases h
    | cons one rest =>
      rw [er] at h
      have h : (if s.2.suits one.pr = true then if one.own = s.2.own then some (Ev.out one.num, ({ s.1 with ords := dropO s.1.ords one.num }, s.2)) else some (Ev.trade one.num one.pr (cut s.2 one), (afterMeet s.1 s.2 one, afterMeetO s.2 one)) else none) = some (e, s') := h
      by_cases hs : s.2.suits one.pr = true
      · rw [if_pos hs] at h
        refine ⟨one, rest, h0, rfl, hs, ?_⟩
        by_cases ho : one.own = s.2.own
        · rw [if_pos ho] at h
          have := Option.some.inj h
          exact .inl ⟨ho, (congrArg Prod.fst this).symm, (congrArg Prod.snd this).symm⟩
        · rw [if_neg ho] at h
          have := Option.some.inj h
          exact .inr ⟨ho, (congrArg Prod.fst this).symm, (congrArg Prod.snd this).symm⟩
      · rw [if_neg hs] at h
        cases h
  · rw [if_neg h0] at h
    cases h
theorem step_stop0 {s : Bk × Ord} (h : ¬ 0 < s.2.rest) : step1 s = none := by
  unfold step1
  rw [if_neg h]
theorem step_stop1 {s : Bk × Ord} (h : row s.1.ords (!s.2.buy) = []) : step1 s = none := by
  unfold step1
  by_cases h0 : 0 < s.2.rest
  · rw [if_pos h0, h]
  · rw [if_neg h0]
theorem step_stop2 {s : Bk × Ord} {one : Ord} {r : List Ord} (h : row s.1.ords (!s.2.buy) = one :: r) (hs : s.2.suits one.pr = false) : step1 s = none := by
  unfold step1
  by_cases h0 : 0 < s.2.rest
  · rw [if_pos h0, h]
    show (if s.2.suits one.pr = true then _ else none) = none
    rw [hs]
    rfl
  · rw [if_neg h0]
theorem step_out {s : Bk × Ord} {one : Ord} {r : List Ord} (h0 : 0 < s.2.rest) (h : row s.1.ords (!s.2.buy) = one :: r) (hs : s.2.suits one.pr = true) (ho : one.own = s.2.own) :
    step1 s = some (.out one.num, ({ s.1 with ords := dropO s.1.ords one.num }, s.2)) := by
  unfold step1
  rw [if_pos h0, h]
  show (if s.2.suits one.pr = true then if one.own = s.2.own then _ else _ else none) = _
  rw [if_pos hs, if_pos ho]
theorem step_trade {s : Bk × Ord} {one : Ord} {r : List Ord} (h0 : 0 < s.2.rest) (h : row s.1.ords (!s.2.buy) = one :: r) (hs : s.2.suits one.pr = true) (ho : ¬ one.own = s.2.own) :
    step1 s = some (.trade one.num one.pr (cut s.2 one), (afterMeet s.1 s.2 one, afterMeetO s.2 one)) := by
  unfold step1
  rw [if_pos h0, h]
  show (if s.2.suits one.pr = true then if one.own = s.2.own then _ else _ else none) = _
  rw [if_pos hs, if_neg ho]
theorem step_ok {s : Bk × Ord} (hb : BkOk s.1) {e : Ev} {s' : Bk × Ord} (h : step1 s = some (e, s')) : StepOk s s' := by
  obtain ⟨one, rest, h0, er, hs, hc⟩ := step_cases h
  have ho : one ∈ s.1.ords := (row_mem.mp (by rw [er]; exact List.mem_cons_self)).1
  rcases hc with ⟨_, _, e'⟩ | ⟨_, _, e'⟩
  · have hl := dropO_len (os := s.1.ords) (n := one.num) ⟨one, ho, rfl⟩
    rw [e']
    refine ⟨drop_ok hb _, within_drop _ _, Nat.le_of_lt hl, rfl, rfl, Like.refl _, Int.le_of_lt h0, Int.le_refl _, ?_⟩
    show s.2.rest.toNat + (dropO s.1.ords one.num).length < s.2.rest.toNat + s.1.ords.length
    omega
  · have m := meet_ok (o := s.2) hb ho h0
    have hc := cut_pos h0 (hb.os one ho).part
    rw [e']
    refine ⟨m.ok, m.within, m.len, m.many, m.calling, ⟨rfl, rfl, rfl, rfl, rfl, rfl⟩, ?_, ?_, ?_⟩
    · show 0 ≤ s.2.rest - cut s.2 one
      omega
    · show s.2.rest - cut s.2 one ≤ s.2.rest
      omega
    · have := m.len
      show (s.2.rest - cut s.2 one).toNat + (afterMeet s.1 s.2 one).ords.length < s.2.rest.toNat + s.1.ords.length
      omega

/-! ### steps till there is none -/
theorem iter_fuel {S E : Type} {step : S → Option (E × S)} {I : S → Prop} {mu : S → Nat} (dec : ∀ s e s', I s → step s = some (e, s') → I s' ∧ mu s' < mu s) : ∀ (n m : Nat) (s : S), I s → mu s ≤ n → mu s ≤ m → iter step n s = iter step m s
  | 0, m, s, hI, hn, _ => by
    cases e : step s with
    | none =>
      cases m with
      | zero => rfl
      | succ m =>
        show ([], s) = _
        unfold iter
        rw [e]
    | some p =>
      have := (dec s p.1 p.2 hI (by rw [e])).2
      omega
  | n + 1, 0, s, hI, _, hm => by
    cases e : step s with
    | none =>
      show _ = ([], s)
      unfold iter
      rw [e]
    | some p =>
      have := (dec s p.1 p.2 hI (by rw [e])).2
      omega
  | n + 1, m + 1, s, hI, hn, hm => by
    cases e : step s with
    | none =>
      unfold iter
      rw [e]
    | some p =>
      obtain ⟨ev, s'⟩ := p
      obtain ⟨hI', hd⟩ := dec s ev s' hI e
      have ih := iter_fuel dec n m s' hI' (by omega) (by omega)
      unfold iter
      rw [e]
      show (ev :: (iter step n s').1, (iter step n s').2) = (ev :: (iter step m s').1, (iter step m s').2)
      rw [ih]
theorem iter_step {S E : Type} {step : S → Option (E × S)} {I : S → Prop} {mu : S → Nat} (dec : ∀ s e s', I s → step s = some (e, s') → I s' ∧ mu s' < mu s) {s s' : S} {e : E} (hI : I s) (h : step s = some (e, s')) :
    iter step (mu s) s = (e :: (iter step (mu s') s').1, (iter step (mu s') s').2) := by
  obtain ⟨hI', hd⟩ := dec s e s' hI h
  cases hm : mu s with
  | zero => omega
  | succ n =>
    have ih := iter_fuel dec n (mu s') s' hI' (by omega) (Nat.le_refl _)
    have e1 : iter step (n + 1) s = (match step s with | none => ([], s) | some (e, s1) => (e :: (iter step n s1).1, (iter step n s1).2)) := rfl
    rw [e1, h]
    show (e :: (iter step n s').1, (iter step n s').2) = _
    rw [ih]
theorem iter_none {S E : Type} {step : S → Option (E × S)} {s : S} (h : step s = none) (n : Nat) : iter step n s = ([], s) := by
  cases n with
  | zero => rfl
  | succ n =>
    unfold iter
    rw [h]
theorem match_step {s s' : Bk × Ord} {e : Ev} (hb : BkOk s.1) (h : step1 s = some (e, s')) : matchAll s = (e :: (matchAll s').1, (matchAll s').2) :=
  iter_step (I := fun s => BkOk s.1) (mu := mu1) (fun s e s' hI h => ⟨(step_ok hI h).ok, (step_ok hI h).mu⟩) hb h
theorem match_none {s : Bk × Ord} (h : step1 s = none) : matchAll s = ([], s) := iter_none h _
/-- induction over the steps of an order that comes -/
theorem match_ind {P : Bk × Ord → Prop} (hs : ∀ s e s', BkOk s.1 → step1 s = some (e, s') → P s' → P s) (h0 : ∀ s, BkOk s.1 → step1 s = none → P s) : ∀ (n : Nat) (s : Bk × Ord), mu1 s ≤ n → BkOk s.1 → P s
  | n, s, hn, hb => by
    cases e : step1 s with
    | none => exact h0 s hb e
    | some p =>
      obtain ⟨ev, s'⟩ := p
      have k := step_ok hb e
      have hm := k.mu
      cases n with
      | zero => omega
      | succ n => exact hs s ev s' hb e (match_ind hs h0 n s' (by omega) k.ok)
structure MatchOk (s : Bk × Ord) (s' : Bk × Ord) : Prop where
  ok : BkOk s'.1
  within : Within s'.1.ords s.1.ords
  len : s'.1.ords.length ≤ s.1.ords.length
  many : s'.1.many = s.1.many
  calling : s'.1.calling = s.1.calling
  like : Like s'.2 s.2
  rest0 : 0 ≤ s.2.rest → 0 ≤ s'.2.rest
  rest : s'.2.rest ≤ s.2.rest
  stop : step1 s' = none
theorem match_ok {s : Bk × Ord} (hb : BkOk s.1) : MatchOk s (matchAll s).2 :=
  match_ind (P := fun s => MatchOk s (matchAll s).2) (fun s e s' hb h ih => by
    have k := step_ok hb h
    rw [match_step hb h]
    exact ⟨ih.ok, ih.within.trans k.within, Nat.le_trans ih.len k.len, ih.many.trans k.many, ih.calling.trans k.calling, ih.like.trans k.like, fun _ => ih.rest0 k.rest0, Int.le_trans ih.rest k.rest, ih.stop⟩)
    (fun s hb h => by
      rw [match_none h]
      exact ⟨hb, Within.refl _, Nat.le_refl _, rfl, rfl, Like.refl _, id, Int.le_refl _, h⟩) _ s (Nat.le_refl _) hb
/-! ### an order comes -/
theorem side_of {z : PySem.Str} (h : goodSide z = true) : ∃ b, z = sideStr b := by
  unfold goodSide at h
  rcases Bool.or_eq_true_iff.mp h with h | h
  · exact ⟨true, of_decide_eq_true h⟩
  · exact ⟨false, of_decide_eq_true h⟩
theorem way_of {z : PySem.Str} (h : goodWay z = true) : ∃ w : Way, z = w.str := by
  unfold goodWay at h
  rcases Bool.or_eq_true_iff.mp h with h | h
  · exact ⟨.rest, of_decide_eq_true h⟩
  · rcases Bool.or_eq_true_iff.mp h with h | h
    · exact ⟨.now, of_decide_eq_true h⟩
    · exact ⟨.whole, of_decide_eq_true h⟩
theorem way_rest (w : Way) : decide (w.str = ("rest" : PySem.Str)) = decide (w = .rest) := by cases w <;> decide +kernel
theorem way_whole (w : Way) : decide (w.str = ("whole" : PySem.Str)) = decide (w = .whole) := by cases w <;> decide +kernel
theorem sideStr_inj {a b : Bool} (h : sideStr a = sideStr b) : a = b := by
  cases a <;> cases b <;> first | rfl | (revert h; decide +kernel)
theorem wayStr_inj {a b : Way} (h : a.str = b.str) : a = b := by
  cases a <;> cases b <;> first | rfl | (revert h; decide +kernel)
theorem goodSide_str (b : Bool) : goodSide (sideStr b) = true := by cases b <;> decide +kernel
theorem goodWay_str (w : Way) : goodWay w.str = true := by cases w <;> decide +kernel
/-- what a good order's parts are -/
structure Parts (price : Option Int) (many : Int) (shows : Option Int) (w : Way) : Prop where
  m1 : 1 ≤ many
  m2 : many ≤ 10000
  pr : ∀ p, price = some p → 1 ≤ p ∧ p ≤ 1000000000
  pn : price = none → w ≠ .rest
  sh : ∀ s, shows = some s → w = .rest ∧ 1 ≤ s ∧ s ≤ many
theorem goodO_parts {side : Bool} {price : Option Int} {many : Int} {shows : Option Int} {w : Way} : goodO (sideStr side) price many shows w.str = true ↔ Parts price many shows w := by
  unfold goodO isCount
  rw [goodSide_str, goodWay_str, way_rest]
  constructor
  · intro h
    simp only [Bool.true_and, Bool.and_eq_true, decide_eq_true_eq] at h
    obtain ⟨⟨⟨h1, h2⟩, h3⟩, h4⟩ := h
    refine ⟨h1, h2, fun p e => ?_, fun e => ?_, fun s e => ?_⟩
    · subst e
      simpa using h3
    · subst e
      simpa using h3
    · subst e
      simpa using h4
  · intro h
    simp only [Bool.true_and, Bool.and_eq_true, decide_eq_true_eq]
    refine ⟨⟨⟨h.m1, h.m2⟩, ?_⟩, ?_⟩
    · cases price with
      | none => simpa using h.pn rfl
      | some p => simpa using h.pr p rfl
    · cases shows with
      | none => rfl
      | some s => simpa using h.sh s rfl
structure PlaceOk (B : Bk) (B' : Bk) : Prop where
  ok : BkOk B'
  len : B'.ords.length ≤ B.ords.length + 1
  many : B'.many = B.many + 1
  calling : B'.calling = B.calling
theorem newOrd_may {B : Bk} (h : BkOk B) {ad : Nat} {owner : Int} {buy : Bool} {price : Option Int} {many : Int} {shows : Option Int} {w : Way} (g : Parts price many shows w) (hw : w = .rest) {o : Ord} (l : Like o (newOrd B ad owner buy price many shows)) (hr : 0 < o.rest) (hm2 : o.rest ≤ many) : MayRest (B.many + 1) o := by
  have hm := h.many0
  have hp : ∃ p, price = some p := by
    cases e : price with
    | none => exact absurd hw (g.pn e)
    | some p => exact ⟨p, rfl⟩
  obtain ⟨p, ep⟩ := hp
  have e1 : o.price = some p := l.price.trans ep
  have e2 : o.pr = p := by
    unfold Ord.pr
    rw [e1]
    rfl
  refine ⟨by rw [e2]; exact e1, by rw [e2]; exact (g.pr p ep).1, by omega, by have := g.m2; omega, fun s e => ?_, ?_, ?_⟩
  · exact (g.sh s (l.shows.symm.trans e)).2.1
  · rw [l.num]
    exact hm
  · rw [l.num]
    show B.many < B.many + 1
    omega
theorem place_ok {B : Bk} (h : BkOk B) {ad : Nat} {owner : Int} {buy : Bool} {price : Option Int} {many : Int} {shows : Option Int} {w : Way} (g : Parts price many shows w) : PlaceOk B (placeB B (newOrd B ad owner buy price many shows) w).2 := by
  have h1 := many_ok h
  unfold placeB
  show PlaceOk B (if w = .rest ∧ 0 < (if (!B.calling && (decide (w ≠ .whole) || canFill B.ords (newOrd B ad owner buy price many shows))) = true then matchAll ({ B with many := B.many + 1 }, newOrd B ad owner buy price many shows) else ([], ({ B with many := B.many + 1 }, newOrd B ad owner buy price many shows))).2.2.rest then _ else _)
  have key : ∀ r : List Ev × (Bk × Ord), MatchOk ({ B with many := B.many + 1 }, newOrd B ad owner buy price many shows) r.2 ∨ r = ([], ({ B with many := B.many + 1 }, newOrd B ad owner buy price many shows)) →
      PlaceOk B (if w = .rest ∧ 0 < r.2.2.rest then r.2.1.put r.2.2 else r.2.1) := fun r hr => by
    have facts : BkOk r.2.1 ∧ r.2.1.ords.length ≤ B.ords.length ∧ r.2.1.many = B.many + 1 ∧ r.2.1.calling = B.calling ∧ Like r.2.2 (newOrd B ad owner buy price many shows) ∧ r.2.2.rest ≤ many := by
      rcases hr with m | e
      · exact ⟨m.ok, m.len, m.many, m.calling, m.like, m.rest⟩
      · rw [e]
        exact ⟨h1, Nat.le_refl _, rfl, rfl, Like.refl _, Int.le_refl _⟩
    obtain ⟨f1, f2, f3, f4, f5, f6⟩ := facts
    by_cases c : w = .rest ∧ 0 < r.2.2.rest
    · rw [if_pos c]
      refine ⟨put_ok f1 (by rw [f3]; exact newOrd_may h g c.1 f5 c.2 f6), ?_, f3, f4⟩
      have := putO_len r.2.1.ords ({ r.2.2 with place := r.2.1.places + 1 } : Ord).show
      show (putO r.2.1.ords ({ r.2.2 with place := r.2.1.places + 1 } : Ord).show).length ≤ _
      omega
    · rw [if_neg c]
      exact ⟨f1, by omega, f3, f4⟩
  refine key _ ?_
  by_cases c : (!B.calling && (decide (w ≠ .whole) || canFill B.ords (newOrd B ad owner buy price many shows))) = true
  · rw [if_pos c]
    exact .inl (match_ok h1)
  · rw [if_neg c]
    exact .inr rfl
/-! ### the end of a call, step by step -/
def restSum (os : List Ord) : Int := (os.map (·.rest)).sum
theorem restSum_cons (o : Ord) (os : List Ord) : restSum (o :: os) = o.rest + restSum os := by
  unfold restSum
  rw [List.map_cons, List.sum_cons]
theorem restSum_nil : restSum [] = 0 := rfl
structure UOk (u : US) : Prop where
  ok : BkOk u.B
  bs : ∀ o ∈ u.buys, o ∈ u.B.ords ∧ o.buy = true
  ss : ∀ o ∈ u.sells, o ∈ u.B.ords ∧ o.buy = false
  nb : (u.buys.map (·.num)).Nodup
  ns : (u.sells.map (·.num)).Nodup
  l0 : 0 ≤ u.left
  lb : u.left ≤ restSum u.buys
  ls : u.left ≤ restSum u.sells
theorem UOk.heads {u : US} (h : UOk u) (h0 : 0 < u.left) : ∃ b bs s ss, u.buys = b :: bs ∧ u.sells = s :: ss := by
  have h1 := h.lb
  have h2 := h.ls
  cases eb : u.buys with
  | nil => rw [eb, restSum_nil] at h1; omega
  | cons b bs =>
    cases es : u.sells with
    | nil => rw [es, restSum_nil] at h2; omega
    | cons s ss => exact ⟨b, bs, s, ss, rfl, rfl⟩
theorem least3_le (x y z : Int) : least3 x y z ≤ x ∧ least3 x y z ≤ y ∧ least3 x y z ≤ z := by
  unfold least3
  have a := imin_le_l (imin x y) z
  have b := imin_le_r (imin x y) z
  have c := imin_le_l x y
  have d := imin_le_r x y
  omega
theorem least3_or (x y z : Int) : least3 x y z = x ∨ least3 x y z = y ∨ least3 x y z = z := by
  unfold least3
  rcases imin_or (imin x y) z with h | h
  · rw [h]
    rcases imin_or x y with k | k
    · exact .inl k
    · exact .inr (.inl k)
  · exact .inr (.inr h)
theorem ustep_some {p : Int} {u : US} {b s : Ord} {bs ss : List Ord} (h0 : 0 < u.left) (eb : u.buys = b :: bs) (es : u.sells = s :: ss) :
    ustep p u = some (⟨b.num, s.num, p, least3 u.left b.rest s.rest⟩,
        { left := u.left - least3 u.left b.rest s.rest, buys := liveO (lessen b (least3 u.left b.rest s.rest) :: bs), sells := liveO (lessen s (least3 u.left b.rest s.rest) :: ss),
          B := { u.B with last := some p, traded := u.B.traded + least3 u.left b.rest s.rest, ords := takeOff (takeOff u.B.ords (lessen b (least3 u.left b.rest s.rest))) (lessen s (least3 u.left b.rest s.rest)) } }) := by
  unfold ustep
  rw [if_pos h0, eb, es]
theorem ustep_none {p : Int} {u : US} (h0 : ¬ 0 < u.left) : ustep p u = none := by
  unfold ustep
  rw [if_neg h0]
theorem liveO_all {os : List Ord} (h : ∀ o ∈ os, 1 ≤ o.rest) : liveO os = os := by
  unfold liveO
  refine List.filter_eq_self.mpr fun o ho => ?_
  have := h o ho
  simp
  omega
theorem liveO_cons {o : Ord} {os : List Ord} (h : ∀ x ∈ os, 1 ≤ x.rest) : liveO (o :: os) = if 0 < o.rest then o :: os else os := by
  have e : liveO (o :: os) = if 0 < o.rest then o :: liveO os else liveO os := by
    unfold liveO
    rw [List.filter_cons]
    by_cases q : 0 < o.rest <;> simp [q]
  rw [e, liveO_all h]
theorem mem_takeOff {os : List Ord} {o x : Ord} (h : x ∈ takeOff os o) : (x = o ∧ o.rest ≠ 0) ∨ (x ∈ os ∧ x.num ≠ o.num) := by
  unfold takeOff at h
  by_cases e : o.rest = 0
  · rw [if_pos e] at h
    exact .inr (mem_dropO.mp h)
  · rw [if_neg e] at h
    rcases mem_updO h with ⟨q, _⟩ | q
    · exact .inl ⟨q, e⟩
    · exact .inr q
theorem take_other {os : List Ord} {o x : Ord} (h : x ∈ os) (n : x.num ≠ o.num) : x ∈ takeOff os o := by
  unfold takeOff
  by_cases e : o.rest = 0
  · rw [if_pos e]
    exact mem_dropO.mpr ⟨h, n⟩
  · rw [if_neg e]
    exact mem_upd_other h n
theorem take_self {os : List Ord} {o : Ord} (h : ∃ x ∈ os, x.num = o.num) (n : o.rest ≠ 0) : o ∈ takeOff os o := by
  unfold takeOff
  rw [if_neg n]
  exact mem_upd h
theorem take_len {os : List Ord} {o : Ord} : (takeOff os o).length ≤ os.length := by
  unfold takeOff
  by_cases e : o.rest = 0
  · rw [if_pos e]
    exact List.length_filter_le _ _
  · rw [if_neg e, updO_len]
    exact Nat.le_refl _
theorem lessen_like (o : Ord) (m : Int) : Like (lessen o m) o := ⟨rfl, rfl, rfl, rfl, rfl, rfl⟩
theorem take_ok {B : Bk} (h : BkOk B) {o : Ord} {m : Int} (ho : o ∈ B.ords) (h0 : 0 ≤ m) (h1 : m ≤ o.rest) : BkOk { B with ords := takeOff B.ords (lessen o m) } ∧ Within (takeOff B.ords (lessen o m)) B.ords := by
  have q := h.os o ho
  unfold takeOff
  have er : (lessen o m).rest = o.rest - m := rfl
  by_cases e : (lessen o m).rest = 0
  · rw [if_pos e]
    exact ⟨drop_ok h _, within_drop _ _⟩
  · rw [if_neg e]
    have hsh := shown_ok (o := { o with rest := o.rest - m }) (by show 1 ≤ o.rest - m; omega) q.shows
    refine ⟨upd_ok h ho rfl rfl ⟨q.price, q.prb, by show 1 ≤ o.rest - m; omega, by have := q.rmax; show o.rest - m ≤ 10000; omega, hsh.1, hsh.2, q.shows, q.num0, q.num, q.pl0, q.pl⟩, within_upd ho (lessen_like o m) (by show o.rest - m ≤ o.rest; omega)⟩
structure UStepOk (u u' : US) : Prop where
  ok : UOk u'
  within : Within u'.B.ords u.B.ords
  len : u'.B.ords.length ≤ u.B.ords.length
  many : u'.B.many = u.B.many
  calling : u'.B.calling = u.B.calling
  mu : muU u' < muU u
theorem ustep_ok {p : Int} {u u' : US} {c : CTr} (h : UOk u) (hs : ustep p u = some (c, u')) : UStepOk u u' := by
  have h0 : 0 < u.left := by
    by_cases h0 : 0 < u.left
    · exact h0
    · rw [ustep_none h0] at hs
      cases hs
  obtain ⟨b, bs, s, ss, eb, es⟩ := h.heads h0
  rw [ustep_some h0 eb es] at hs
  have e := Option.some.inj hs
  have eu : u' = _ := (congrArg Prod.snd e).symm
  clear hs e
  have hb := h.bs b (by rw [eb]; exact List.mem_cons_self)
  have hs := h.ss s (by rw [es]; exact List.mem_cons_self)
  have qb := h.ok.os b hb.1
  have qs := h.ok.os s hs.1
  have ml := least3_le u.left b.rest s.rest
  have mo := least3_or u.left b.rest s.rest
  generalize hm : least3 u.left b.rest s.rest = m at *
  have hbr := qb.rest
  have hsr := qs.rest
  have m1 : 1 ≤ m := by omega
  have nbs : b.num ≠ s.num := fun z => by
    have := nodup_inj h.ok.ndn hb.1 hs.1 z
    rw [this, hs.2] at hb
    exact absurd hb.2 (by decide)
  have t1 := take_ok h.ok hb.1 (by omega) ml.2.1
  have hs1 : s ∈ takeOff u.B.ords (lessen b m) := take_other hs.1 (Ne.symm nbs)
  have t2 := take_ok t1.1 (o := s) (m := m) hs1 (by omega) ml.2.2
  have nb := h.nb
  have ns := h.ns
  rw [eb, List.map_cons, List.nodup_cons] at nb
  rw [es, List.map_cons, List.nodup_cons] at ns
  have lb : ∀ x ∈ bs, 1 ≤ x.rest := fun x hx => (h.ok.os x (h.bs x (by rw [eb]; exact List.mem_cons_of_mem _ hx)).1).rest
  have ls : ∀ x ∈ ss, 1 ≤ x.rest := fun x hx => (h.ok.os x (h.ss x (by rw [es]; exact List.mem_cons_of_mem _ hx)).1).rest
  have elb := liveO_cons (o := lessen b m) lb
  have els := liveO_cons (o := lessen s m) ls
  have rb : (lessen b m).rest = b.rest - m := rfl
  have rs : (lessen s m).rest = s.rest - m := rfl
  have sb := h.lb
  have sS := h.ls
  rw [eb, restSum_cons] at sb
  rw [es, restSum_cons] at sS
  -- who is where
  have inB : ∀ x ∈ bs, x ∈ takeOff (takeOff u.B.ords (lessen b m)) (lessen s m) ∧ x.buy = true := fun x hx => by
    have q := h.bs x (by rw [eb]; exact List.mem_cons_of_mem _ hx)
    refine ⟨take_other (take_other q.1 fun z => nb.1 (List.mem_map.mpr ⟨x, hx, z⟩)) (fun z => ?_), q.2⟩
    have := nodup_inj h.ok.ndn q.1 hs.1 z
    rw [this, hs.2] at q
    exact absurd q.2 (by decide)
  have inS : ∀ x ∈ ss, x ∈ takeOff (takeOff u.B.ords (lessen b m)) (lessen s m) ∧ x.buy = false := fun x hx => by
    have q := h.ss x (by rw [es]; exact List.mem_cons_of_mem _ hx)
    refine ⟨take_other (take_other q.1 (fun z => ?_)) (fun z => ns.1 (List.mem_map.mpr ⟨x, hx, z⟩)), q.2⟩
    have := nodup_inj h.ok.ndn q.1 hb.1 z
    rw [this, hb.2] at q
    exact absurd q.2 (by decide)
  rw [eu]
  refine ⟨⟨tell_ok t2.1 (some p) (u.B.traded + m), fun x hx => ?_, fun x hx => ?_, ?_, ?_, by show 0 ≤ u.left - m; omega, ?_, ?_⟩, t2.2.trans t1.2, Nat.le_trans take_len take_len, rfl, rfl, ?_⟩
  · have hx : x ∈ liveO (lessen b m :: bs) := hx
    rw [elb] at hx
    by_cases c : 0 < (lessen b m).rest
    · rw [if_pos c] at hx
      rcases List.mem_cons.mp hx with e | hx
      · rw [e]
        exact ⟨take_other (take_self ⟨b, hb.1, rfl⟩ (by omega)) nbs, hb.2⟩
      · exact inB x hx
    · rw [if_neg c] at hx
      exact inB x hx
  · have hx : x ∈ liveO (lessen s m :: ss) := hx
    rw [els] at hx
    by_cases c : 0 < (lessen s m).rest
    · rw [if_pos c] at hx
      rcases List.mem_cons.mp hx with e | hx
      · rw [e]
        exact ⟨take_self ⟨s, hs1, rfl⟩ (by omega), hs.2⟩
      · exact inS x hx
    · rw [if_neg c] at hx
      exact inS x hx
  · show ((liveO (lessen b m :: bs)).map (·.num)).Nodup
    rw [elb]
    by_cases c : 0 < (lessen b m).rest
    · rw [if_pos c, List.map_cons, List.nodup_cons]
      exact nb
    · rw [if_neg c]
      exact nb.2
  · show ((liveO (lessen s m :: ss)).map (·.num)).Nodup
    rw [els]
    by_cases c : 0 < (lessen s m).rest
    · rw [if_pos c, List.map_cons, List.nodup_cons]
      exact ns
    · rw [if_neg c]
      exact ns.2
  · show u.left - m ≤ restSum (liveO (lessen b m :: bs))
    rw [elb]
    by_cases c : 0 < (lessen b m).rest
    · rw [if_pos c, restSum_cons]
      omega
    · rw [if_neg c]
      omega
  · show u.left - m ≤ restSum (liveO (lessen s m :: ss))
    rw [els]
    by_cases c : 0 < (lessen s m).rest
    · rw [if_pos c, restSum_cons]
      omega
    · rw [if_neg c]
      omega
  · show (u.left - m).toNat < u.left.toNat
    omega
theorem uiter_step {p : Int} {u u' : US} {c : CTr} (h : UOk u) (hs : ustep p u = some (c, u')) : iter (ustep p) (muU u) u = (c :: (iter (ustep p) (muU u') u').1, (iter (ustep p) (muU u') u').2) :=
  iter_step (I := UOk) (mu := muU) (fun u c u' hI hs => ⟨(ustep_ok hI hs).ok, (ustep_ok hI hs).mu⟩) h hs
/-! ### the call's price, first facts -/
theorem sum_nonneg : ∀ {l : List Int}, (∀ x ∈ l, 0 ≤ x) → 0 ≤ l.sum
  | [], _ => Int.le_refl _
  | a :: l, h => by
    rw [List.sum_cons]
    have := h a List.mem_cons_self
    have := sum_nonneg (l := l) fun x hx => h x (List.mem_cons_of_mem _ hx)
    omega
theorem sum_filter_le {q : Ord → Bool} : ∀ {os : List Ord}, (∀ o ∈ os, 0 ≤ o.rest) → ((os.filter q).map (·.rest)).sum ≤ restSum os
  | [], _ => Int.le_refl _
  | a :: l, h => by
    have ih := sum_filter_le (q := q) (os := l) fun x hx => h x (List.mem_cons_of_mem _ hx)
    have h0 := h a List.mem_cons_self
    rw [restSum_cons, List.filter_cons]
    by_cases e : q a = true
    · rw [if_pos e, List.map_cons, List.sum_cons]
      omega
    · rw [if_neg e]
      omega
theorem wanted_nonneg {os : List Ord} (h : ∀ o ∈ os, 0 ≤ o.rest) (side : Bool) (p : Int) : 0 ≤ wanted os side p := by
  unfold wanted
  refine sum_nonneg fun x hx => ?_
  obtain ⟨o, ho, e⟩ := List.mem_map.mp hx
  rw [← e]
  exact h o (row_mem.mp (List.mem_filter.mp ho).1).1
theorem wanted_le {os : List Ord} (h : ∀ o ∈ os, 0 ≤ o.rest) (side : Bool) (p : Int) : wanted os side p ≤ restSum (row os side) := by
  unfold wanted
  exact sum_filter_le fun o ho => h o (row_mem.mp ho).1
theorem better_mem {l : List (List Int)} {r : List Int} : ∀ {b : Option (List Int)}, l.foldl better b = some r → r ∈ l ∨ b = some r := by
  induction l with
  | nil => intro b h; exact .inr h
  | cons x l ih =>
    intro b h
    rw [List.foldl_cons] at h
    rcases ih h with h | h
    · exact .inl (List.mem_cons_of_mem _ h)
    · unfold better at h
      cases b with
      | none =>
        have h : some x = some r := h
        rw [Option.some.inj h]
        exact .inl List.mem_cons_self
      | some c =>
        have h : (if ltL x c then some x else some c) = some r := h
        by_cases e : ltL x c = true
        · rw [if_pos e] at h
          rw [Option.some.inj h]
          exact .inl List.mem_cons_self
        · rw [if_neg e] at h
          exact .inr h
theorem best_mem {os : List Ord} {last : Option Int} {r : List Int} (h : bestOf os last = some r) : ∃ o ∈ os, r = rank os last o.pr := by
  unfold bestOf at h
  rcases better_mem h with h | h
  · obtain ⟨o, ho, e⟩ := List.mem_map.mp h
    exact ⟨o, ho, e.symm⟩
  · cases h
theorem callPrice_some {os : List Ord} {last : Option Int} {p n : Int} (h : callPrice os last = some (p, n)) : ∃ o ∈ os, p = o.pr ∧ n = imin (wanted os true p) (wanted os false p) ∧ n ≠ 0 ∧ bestOf os last = some (rank os last p) := by
  unfold callPrice at h
  cases e : bestOf os last with
  | none => rw [e] at h; cases h
  | some r =>
    obtain ⟨o, ho, er⟩ := best_mem e
    rw [e, er] at h
    unfold rank at h
    have h : (if -imin (wanted os true o.pr) (wanted os false o.pr) = 0 then none else some (o.pr, - -imin (wanted os true o.pr) (wanted os false o.pr))) = some (p, n) := h
    by_cases c : -imin (wanted os true o.pr) (wanted os false o.pr) = 0
    · rw [if_pos c] at h
      cases h
    · rw [if_neg c] at h
      have h := Option.some.inj h
      have e1 : o.pr = p := congrArg Prod.fst h
      have e2 : - -imin (wanted os true o.pr) (wanted os false o.pr) = n := congrArg Prod.snd h
      rw [e1] at e2 c er
      exact ⟨o, ho, e1.symm, by omega, by omega, by rw [er]⟩
theorem imin_nonneg {i j : Int} (h1 : 0 ≤ i) (h2 : 0 ≤ j) : 0 ≤ imin i j := by
  have := imin_or i j
  omega
theorem callPrice_bound {os : List Ord} {last : Option Int} {p n : Int} (hr : ∀ o ∈ os, 0 ≤ o.rest) (h : callPrice os last = some (p, n)) : 0 < n ∧ n ≤ restSum (row os true) ∧ n ≤ restSum (row os false) := by
  obtain ⟨o, ho, e1, e2, e3, _⟩ := callPrice_some h
  have a := wanted_nonneg hr true p
  have b := wanted_nonneg hr false p
  have c := wanted_le hr true p
  have d := wanted_le hr false p
  have e := imin_nonneg a b
  have f := imin_le_l (wanted os true p) (wanted os false p)
  have g := imin_le_r (wanted os true p) (wanted os false p)
  omega
theorem nodup_row {β : Type} {f : Ord → β} {os : List Ord} {side : Bool} (h : (os.map f).Nodup) : ((row os side).map f).Nodup := by
  unfold row
  have h1 : ((os.filter fun o => o.buy == side).map f).Nodup := h.sublist ((List.filter_sublist).map _)
  exact (((List.mergeSort_perm _ leO).map f).nodup_iff).mpr h1
theorem ustart_ok {B : Bk} {p n : Int} (h : BkOk B) (e : callPrice B.ords B.last = some (p, n)) : UOk { left := n, buys := row B.ords true, sells := row B.ords false, B := { B with calling := false } } := by
  have k := callPrice_bound (fun o ho => by have := (h.os o ho).rest; omega) e
  exact ⟨calling_ok h false, fun o ho => row_mem.mp ho, fun o ho => row_mem.mp ho, nodup_row h.ndn, nodup_row h.ndn, Int.le_of_lt k.1, k.2.1, k.2.2⟩
structure UncOk (B B' : Bk) : Prop where
  ok : BkOk B'
  within : Within B'.ords B.ords
  len : B'.ords.length ≤ B.ords.length
  many : B'.many = B.many
  calling : B'.calling = false
theorem iter_succ {S E : Type} (step : S → Option (E × S)) (n : Nat) (s : S) : iter step (n + 1) s = (match step s with | none => ([], s) | some (e, s1) => (e :: (iter step n s1).1, (iter step n s1).2)) := rfl
theorem uiter_ok {p : Int} : ∀ (n : Nat) (u : US), UOk u → u.B.calling = false → UncOk u.B (iter (ustep p) n u).2.B
  | 0, u, h, hc => ⟨h.ok, Within.refl _, Nat.le_refl _, rfl, hc⟩
  | n + 1, u, h, hc => by
    cases e : ustep p u with
    | none =>
      rw [iter_none e]
      exact ⟨h.ok, Within.refl _, Nat.le_refl _, rfl, hc⟩
    | some q =>
      obtain ⟨c, u'⟩ := q
      have k := ustep_ok h e
      have ih := uiter_ok (p := p) n u' k.ok (k.calling.trans hc)
      rw [iter_succ, e]
      exact ⟨ih.ok, ih.within.trans k.within, Nat.le_trans ih.len k.len, ih.many.trans k.many, ih.calling⟩
theorem uncross_ok {B : Bk} (h : BkOk B) : UncOk B (uncrossB B).2 := by
  unfold uncrossB
  cases e : callPrice B.ords B.last with
  | none => exact ⟨calling_ok h false, Within.refl _, Nat.le_refl _, rfl, rfl⟩
  | some q =>
    obtain ⟨p, n⟩ := q
    have k := uiter_ok (p := p) n.toNat _ (ustart_ok h e) rfl
    exact ⟨k.ok, k.within, k.len, k.many, k.calling⟩
theorem restSum_le : ∀ {os : List Ord}, (∀ o ∈ os, o.rest ≤ 10000) → restSum os ≤ 10000 * os.length
  | [], _ => Int.le_refl _
  | a :: l, h => by
    have := h a List.mem_cons_self
    have := restSum_le (os := l) fun x hx => h x (List.mem_cons_of_mem _ hx)
    rw [restSum_cons, List.length_cons]
    omega
/-- those behind the heads stand as they stood -/
theorem tail_in {u : US} (h : UOk u) {b s : Ord} {bs ss : List Ord} (eb : u.buys = b :: bs) (es : u.sells = s :: ss) (m : Int) :
    (∀ x ∈ bs, x ∈ takeOff (takeOff u.B.ords (lessen b m)) (lessen s m)) ∧ (∀ x ∈ ss, x ∈ takeOff (takeOff u.B.ords (lessen b m)) (lessen s m)) ∧ s ∈ takeOff u.B.ords (lessen b m) ∧ b.num ≠ s.num := by
  have hb := h.bs b (by rw [eb]; exact List.mem_cons_self)
  have hs := h.ss s (by rw [es]; exact List.mem_cons_self)
  have nbs : b.num ≠ s.num := fun z => by
    have := nodup_inj h.ok.ndn hb.1 hs.1 z
    rw [this, hs.2] at hb
    exact absurd hb.2 (by decide)
  have nb := h.nb
  have ns := h.ns
  rw [eb, List.map_cons, List.nodup_cons] at nb
  rw [es, List.map_cons, List.nodup_cons] at ns
  refine ⟨fun x hx => ?_, fun x hx => ?_, take_other hs.1 (Ne.symm nbs), nbs⟩
  · have q := h.bs x (by rw [eb]; exact List.mem_cons_of_mem _ hx)
    refine take_other (take_other q.1 fun z => nb.1 (List.mem_map.mpr ⟨x, hx, z⟩)) (fun z => ?_)
    have := nodup_inj h.ok.ndn q.1 hs.1 z
    rw [this, hs.2] at q
    exact absurd q.2 (by decide)
  · have q := h.ss x (by rw [es]; exact List.mem_cons_of_mem _ hx)
    refine take_other (take_other q.1 (fun z => ?_)) (fun z => ns.1 (List.mem_map.mpr ⟨x, hx, z⟩))
    have := nodup_inj h.ok.ndn q.1 hb.1 z
    rw [this, hb.2] at q
    exact absurd q.2 (by decide)
end FB

set_option maxRecDepth 100000
set_option maxHeartbeats 4000000
/-! Further rules, and short words, for the walks of fairbook. -/
namespace FB
open PySem PySem.Spec PyProof.Rows L2

/-! ### the head: facts by names and a list of further looks -/
def obsX (n : Nat) (fa : List He.Fa) (fn : List He.DefD) (xb : PySem.W.Frag → List Bool) (g : Addr → Option Obj) : Bool × He.AlD :=
  let K := He.frG g (He.asD g n)
  ((xb K).all id, He.obsD fa fn K)
def hookX (n : Nat) (fa : List He.Fa) (fn : List He.DefD) (xb : PySem.W.Frag → List Bool) : PySem.W.Hook where
  α := Bool × He.AlD
  obs := fun s => obsX n fa fn xb s.heap.get?
  val := fun _ => (true, He.valD fn)
  says := fun _ h => ∃ K : PySem.W.Frag, K.In h ∧ He.SaysD fa fn K ∧ (xb K).all id = true
  of := fun _ _ e => ⟨_, He.frG_in, congrArg Prod.snd e, congrArg Prod.fst e⟩
  keeps := fun _ _ _ ⟨K, hK, c⟩ k => ⟨K, PySem.W.Frag.In.keeps hK k, c⟩
theorem obsX_eq {n : Nat} {fa : List He.Fa} {fn : List He.DefD} {xb : PySem.W.Frag → List Bool} {g : Addr → Option Obj} {s : Shared} (h : ∀ a, g a = s.heap.get? a) : obsX n fa fn xb g = (hookX n fa fn xb).obs s := by
  have e : g = s.heap.get? := funext h
  rw [e] <;> rfl
theorem allB {bs : List Bool} (h : bs.all id = true) (i : Nat) {b : Bool} (e : bs[i]? = some b) : b = true := List.all_eq_true.mp h b (List.mem_of_getElem? e)
def excCB (K : PySem.W.Frag) (D : Addr) : Bool :=
  decide (PySem.W.findIn K (.ref D) "__getattribute__" = some (some (.builtin "BaseException.__getattribute__"))) &&
  (decide (PySem.W.findIn K (.ref D) "__getattr__" = some none) &&
  (decide (PySem.W.subIn K (.ref D) (.type "BaseException") = some true) &&
  (PySem.W.hasDictIn K D &&
  (decide (PySem.W.findIn K (.ref D) "__class__" = some (some (.builtin "object.__class__"))) &&
  (decide (PySem.W.specialIn K (.builtin "object.__class__") "__get__" = some (some (.builtin "getset_descriptor.__get__"))) &&
  (decide (PySem.W.takesIn K (.builtin "object.__class__") = some true) &&
  decide (PySem.W.mroIn K D (.type "object") = some true)))))))
theorem excCB_ok {K : PySem.W.Frag} {D : Addr} (h : excCB K D = true) : ExcC K D := by
  unfold excCB at h
  obtain ⟨h1, h⟩ := He.ba h
  obtain ⟨h2, h⟩ := He.ba h
  obtain ⟨h3, h⟩ := He.ba h
  obtain ⟨h4, h⟩ := He.ba h
  obtain ⟨h5, h⟩ := He.ba h
  obtain ⟨h6, h⟩ := He.ba h
  obtain ⟨h7, h8⟩ := He.ba h
  exact ⟨of_decide_eq_true h1, of_decide_eq_true h2, of_decide_eq_true h3, h4, of_decide_eq_true h5, of_decide_eq_true h6, of_decide_eq_true h7, of_decide_eq_true h8⟩

/-! ### defs by names -/
abbrev FD (K : PySem.W.Frag) (x q : Str) (st : Stmt) (f : Addr) : Prop := ∃ fd, FunD K x q (defArgs st) (defBody st) (defScope st) [] [] f fd
/-- the module's def x keeps its promise -/
structure Fn (P : Program) (w : World) (K : PySem.W.Frag) (mg : Str → Option Value) (base : Heap) (CX : CXT) (k : Nat) (x : Str) (ps : List Str) (sp : Sp) : Prop where
  ok : ∃ fd, FnOk P w K mg base CX k (He.ga K x) fd ps sp ∧ Binds K fd ps []
  gl : mg x = some (.ref (He.ga K x))
  kp : PySem.W.keepIn K (.ref (He.ga K x)) = true
/-- the class C's method m -/
structure Mt (P : Program) (w : World) (K : PySem.W.Frag) (mg : Str → Option Value) (base : Heap) (CX : CXT) (k : Nat) (C m : Str) (ps : List Str) (sp : Sp) : Prop where
  ok : ∃ fd, FnOk P w K mg base CX k (He.ma K (He.ga K C) m) fd ps sp ∧ Binds K fd ps []
  cl : Cls K (He.ga K C)
  me : Meth K (He.ga K C) m (He.ma K (He.ga K C) m)
/-- the class C's __init__ -/
structure Cn (P : Program) (w : World) (K : PySem.W.Frag) (mg : Str → Option Value) (base : Heap) (CX : CXT) (k : Nat) (C : Str) (ps : List Str) (sp : Sp) : Prop where
  ok : ∃ fd, FnOk P w K mg base CX k (He.ma K (He.ga K C) "__init__") fd ps sp ∧ Binds K fd ps []
  mak : Mk K (He.ga K C) (He.ma K (He.ga K C) "__init__")
  gl : mg C = some (.ref (He.ga K C))
section
variable {X : Cx} {CX : CXT} {k : Nat} {x C m : Str} {ps : List Str} {sp : Sp} {E : XK} {p pos apos : Pos} {e o : Expr} {es : List Expr} {ta : TE} {t : TA}
theorem pe_fn (F : Fn X.prog X.w X.K X.mg X.base CX k x ps sp) (hr : Room k X.A) (hg : Gl X x) (hx : Passes CX X E) (ha : PA X (e :: es) t)
    (hdb : (x == ("__debug__" : Str)) = false := by decide) (he : starEach (e :: es) X.env = (false, eval e X.env) :: starEach es X.env := by rfl) (hpl : (backTo pos (starEach es X.env)).any (·.1) = false := by rfl) :
    PE X (.Call (.Name x p) (e :: es) [] pos) (tCall sp [] E t) := by
  obtain ⟨fd, G, b⟩ := F.ok
  exact pe_call G hr hg F.gl F.kp b .nil hx ha hdb he hpl
theorem pe_fn0 (F : Fn X.prog X.w X.K X.mg X.base CX k x ps sp) (hr : Room k X.A) (hg : Gl X x) (hx : Passes CX X E) (hdb : (x == ("__debug__" : Str)) = false := by decide) :
    PE X (.Call (.Name x p) [] [] pos) (tCall sp [] E tNil) := by
  obtain ⟨fd, G, b⟩ := F.ok
  exact pe_call0 G hr hg F.gl F.kp b .nil hx hdb
theorem pe_mt {pl : Sem Bool} (he : PE X o ta) (F : Mt X.prog X.w X.K X.mg X.base CX k C m ps sp) (hr : Room k X.A) (hx : Passes CX X E) (ha : PA X (e :: es) t)
    (hst : starEach (e :: es) X.env = (false, eval e X.env) :: starEach es X.env := by rfl) (hpl : (backTo pos (starEach es X.env)).any (·.1) = false := by rfl)
    (ht : eval (.Call (.Attribute o m apos) (e :: es) [] pos) X.env = (do
      let ov ← eval o X.env
      standAt apos.atName
      let (f, first) ← holding [ov] (getMethod ov m pl)
      callWith pos f first (backTo pos (starEach (e :: es) X.env)) (backToKw pos (keywordEach [] X.env))) := by rfl) :
    PE X (.Call (.Attribute o m apos) (e :: es) [] pos) (tMeth (He.ga X.K C) m sp [] E ta t) := by
  obtain ⟨fd, G, b⟩ := F.ok
  exact pe_meth he F.cl F.me G hr b .nil hx ha hst hpl ht
theorem pe_mt0 {pl : Sem Bool} (he : PE X o ta) (F : Mt X.prog X.w X.K X.mg X.base CX k C m ps sp) (hr : Room k X.A) (hx : Passes CX X E)
    (ht : eval (.Call (.Attribute o m apos) [] [] pos) X.env = (do
      let ov ← eval o X.env
      standAt apos.atName
      let (f, first) ← holding [ov] (getMethod ov m pl)
      callWith pos f first (backTo pos (starEach [] X.env)) (backToKw pos (keywordEach [] X.env))) := by rfl) :
    PE X (.Call (.Attribute o m apos) [] [] pos) (tMeth (He.ga X.K C) m sp [] E ta tNil) := by
  obtain ⟨fd, G, b⟩ := F.ok
  exact pe_meth0 he F.cl F.me G hr b .nil hx ht
theorem pe_cn (F : Cn X.prog X.w X.K X.mg X.base CX k C ps sp) (hr : Room (k + 1) X.A) (hg : Gl X C) (hx : Passes CX X E) (ha : PA X (e :: es) t)
    (hdb : (C == ("__debug__" : Str)) = false := by decide) (he : starEach (e :: es) X.env = (false, eval e X.env) :: starEach es X.env := by rfl) (hpl : (backTo pos (starEach es X.env)).any (·.1) = false := by rfl) :
    PE X (.Call (.Name C p) (e :: es) [] pos) (tMake (He.ga X.K C) sp [] E t) := by
  obtain ⟨fd, G, b⟩ := F.ok
  exact pe_make F.mak G hr hg F.gl b .nil hx ha hdb he hpl
theorem pe_cn0 (F : Cn X.prog X.w X.K X.mg X.base CX k C ps sp) (hr : Room (k + 1) X.A) (hg : Gl X C) (hx : Passes CX X E) (hdb : (C == ("__debug__" : Str)) = false := by decide) :
    PE X (.Call (.Name C p) [] [] pos) (tMake (He.ga X.K C) sp [] E tNil) := by
  obtain ⟨fd, G, b⟩ := F.ok
  exact pe_make0 F.mak G hr hg F.gl b .nil hx hdb
end
section
variable {P : Program} {w : World} {K : PySem.W.Frag} {mg : Str → Option Value} {base : Heap} {x q C : Str} {st : Stmt} {N ps : List Str} {k : Nat} {sp : Sp} {f : Addr}
/-- how the arguments of the def st bind -/
abbrev BindsAll (x q : Str) (st : Stmt) (ps : List Str) : Prop := ∀ (kV doc pm : Value) (an : Option Addr) (cdv ct : Value) (us : List Value), us.length = ps.length → bindArgs (PySem.W.fnOf x q (defArgs st) (defBody st) (defScope st) .none kV doc pm an cdv ct) ⟨us, []⟩ = pure (ps.zip us)
/-- a def that raises nothing, from its body -/
theorem ok0 (F : FD K x q st f) (S : FnScope N ps (defScope st)) (hb : BindsAll x q st ps) (len : ∀ vs H Q E, sp vs H Q E → vs.length = ps.length)
    (hbody : ∀ (cdv : Value) (A : Around) (outer : List Env) (s : Shared) (H : Hp) (vs : List V) (Q : VK) (E : XK), Room k (A.deeper (envOfC q (defScope st) s.heap.objs.size f cdv)) → sp vs H Q E →
      ∃ t, PSs (cxOf CX0 P w K mg base N q (defScope st) f cdv A outer s H E).nox (defBody st) t ∧ t { nx := fun _ H' => Q .non H', rt := Q } (start N vs) H) :
    ∃ fd, FnOk P w K mg base CX0 (k + 1) f fd ps sp ∧ Binds K fd ps [] := by
  obtain ⟨fd, G⟩ := F
  refine ⟨fd, FunD.ok (CX := CX0) G S len (fun cdv A outer s H vs Q E hr hsp => ?_), FunD.bindsN G hb⟩
  obtain ⟨t, h, q⟩ := hbody cdv A outer s H vs Q E hr hsp
  exact ⟨t, h.nox, q⟩
/-- .. one that may raise -/
theorem okX (F : FD K x q st f) (S : FnScope N ps (defScope st)) (hb : BindsAll x q st ps) (len : ∀ vs H Q E, sp vs H Q E → vs.length = ps.length)
    (hbody : ∀ (cdv : Value) (A : Around) (outer : List Env) (s : Shared) (H : Hp) (vs : List V) (Q : VK) (E : XK), Room k (A.deeper (envOfC q (defScope st) s.heap.objs.size f cdv)) → sp vs H Q E →
      ∃ t, PSs (cxOf (L2.CX P w) P w K mg base N q (defScope st) f cdv A outer s H E) (defBody st) t ∧ t { nx := fun _ H' => Q .non H', rt := Q } (start N vs) H) :
    ∃ fd, FnOk P w K mg base (L2.CX P w) (k + 1) f fd ps sp ∧ Binds K fd ps [] := by
  obtain ⟨fd, G⟩ := F
  exact ⟨fd, FunD.ok (CX := L2.CX P w) G S len hbody, FunD.bindsN G hb⟩
end

/-! ### pairs -/
theorem paired_snoc {α β : Type} {F : α → β → Prop} : ∀ {l₁ : List α} {l₂ : List β} {a : α} {b : β}, Paired F l₁ l₂ → F a b → Paired F (l₁ ++ [a]) (l₂ ++ [b])
  | _, _, _, _, .nil, h => .cons h .nil
  | _, _, _, _, .cons r t, h => .cons r (paired_snoc t h)
theorem paired_map {α β : Type} {F G : α → β → Prop} (h : ∀ a b, F a b → G a b) : ∀ {l₁ : List α} {l₂ : List β}, Paired F l₁ l₂ → Paired G l₁ l₂
  | _, _, .nil => .nil
  | _, _, .cons r t => .cons (h _ _ r) (paired_map h t)
theorem paired_eq {α β : Type} {g : α → β} : ∀ {l₁ : List α} {l₂ : List β}, Paired (fun a b => b = g a) l₁ l₂ → l₂ = l₁.map g
  | _, _, .nil => rfl
  | _, _, .cons r t => by rw [List.map_cons, ← paired_eq t, r]
theorem paired_len {α β : Type} {F : α → β → Prop} : ∀ {l₁ : List α} {l₂ : List β}, Paired F l₁ l₂ → l₂.length = l₁.length
  | _, _, .nil => rfl
  | _, _, .cons _ t => by rw [List.length_cons, List.length_cons, paired_len t]

/-! ### a comprehension that leaves all that stood as it was -/
theorem same_upd {H H1 : Hp} {p : Addr} {o : HO} (s : L2.Same H H1) (n : H1 p = none) : L2.Same H (L2.upd H1 p o) := fun b u e => by
  rw [upd_ne (ne_of_none (s b u e) n)]
  exact s b u e
theorem same_new {H : Hp} {p : Addr} {o : HO} (n : H p = none) : L2.Same H (L2.upd H p o) := same_upd (L2.Same.refl H) n
/-- all but what stands at D is as it was -/
def SameBut (D : Addr) (H H' : Hp) : Prop := ∀ b o, b ≠ D → H b = some o → H' b = some o
section
variable {α : Type} {g : TG} {tt : TT} {te : TE} {vs : List Nat} {σ : L2.St} {H1 : Hp} {D : Addr} {Qd : Hp → Prop} {zs : List α} {enc : α → V} {p : α → Bool} {R : α → V → Hp → Prop}
theorem lc_relJ (J : It) (hgo : ∀ i H, L2.Same H1 H → i < zs.length → J.go i H) (hstop : ∀ H, L2.Same H1 H → J.stop zs.length H)
    (hy : ∀ i H x H', L2.Same H1 H → i < zs.length → J.yld i H x H' → H' = H ∧ ∃ z, zs[i]? = some z ∧ x = enc z)
    (hz : zs.length ≤ sizeLine) (hn : H1 D = none) (hR : ∀ z y H H' xs, H D = some (.lst xs) → SameBut D H H' → R z y H → R z y H')
    (hs : ∀ z ∈ zs, ∀ H, L2.Same H1 H → ∀ (Qy : VK) (Qn : Hp → Prop), (p z = true → ∀ y H', L2.Same H H' → R z y H' → Qy y H') → (p z = false → ∀ H', L2.Same H H' → Qn H') →
      g (enc z) (wipe σ vs) H fun σ2 H2 => wipe σ2 vs = wipe σ vs ∧ tt σ2 H2 fun b H3 => if b = true then te σ2 H3 Qy else Qn H3)
    (hd : ∀ H ys, L2.Same H1 H → H D = some (.lst ys) → Paired (fun z y => R z y H) (zs.filter p) ys → Qd H) :
    ∃ W : Nat → Nat → Hp → Prop, (∃ m, W 0 m (upd H1 D (.lst []))) ∧ ∀ i m H, W i m H →
      (J.stop i H ∧ Qd H) ∨ (J.go i H ∧ ∃ Nx : Hp → Prop, (∀ H', Nx H' → ∃ m', m' < m ∧ W (i + 1) m' H') ∧ ∀ x H', J.yld i H x H' → g x (wipe σ vs) H' fun σ2 H2 => wipe σ2 vs = wipe σ vs ∧ tt σ2 H2 fun b H3 =>
        if b = true then te σ2 H3 fun y H4 => ∃ acc, H4 D = some (.lst acc) ∧ acc.length < sizeLine ∧ Nx (upd H4 D (.lst (acc ++ [y]))) else Nx H3) := by
  let Pv : Nat → Hp → Prop := fun i H => L2.Same H1 H ∧ ∃ ys, H D = some (.lst ys) ∧ ys.length ≤ i ∧ Paired (fun z y => R z y H) ((zs.take i).filter p) ys
  refine ⟨fun i m H => m = zs.length - i ∧ i ≤ zs.length ∧ Pv i H, ⟨zs.length, by simp, Nat.zero_le _, same_new hn, [], upd_same, Nat.le_refl _, .nil⟩, ?_⟩
  rintro i m H ⟨rfl, hi, sm, ys, hD, hl, hP⟩
  by_cases hlt : i < zs.length
  · refine .inr ⟨hgo i H sm hlt, Pv (i + 1), fun H' p' => ⟨zs.length - (i + 1), by omega, rfl, hlt, p'⟩, fun x H' y => ?_⟩
    obtain ⟨e, z, hzi, ex⟩ := hy i H x H' sm hlt y
    subst e ex
    have mz : z ∈ zs := List.mem_of_getElem? hzi
    have tk : zs.take (i + 1) = zs.take i ++ [z] := by
      rw [List.take_add_one, hzi]
      rfl
    refine hs z mz H' sm _ _ (fun pz y H4 s4 r4 => ⟨ys, s4 _ _ hD, by omega, ?_, ys ++ [y], upd_same, by simp; omega, ?_⟩) (fun pz H3 s3 => ?_)
    · intro b u e
      have hb : b ≠ D := ne_of_none e hn
      rw [upd_ne hb]
      exact s4 b u (sm b u e)
    · rw [tk, List.filter_append, List.filter_cons, pz]
      exact paired_snoc (paired_map (fun z y r => hR z y H' _ ys hD (fun b u hb e => by rw [upd_ne hb]; exact s4 b u e) r) hP) (hR z y H4 _ ys (s4 _ _ hD) (fun b u hb e => by rw [upd_ne hb]; exact e) r4)
    · refine ⟨fun b u e => s3 b u (sm b u e), ys, s3 _ _ hD, by omega, ?_⟩
      rw [tk, List.filter_append, List.filter_cons, pz]
      simp only [Bool.false_eq_true, if_false, List.filter_nil, List.append_nil]
      exact paired_map (fun z y r => hR z y H' _ ys hD (fun b u _ e => s3 b u e) r) hP
  · have e : i = zs.length := by omega
    subst e
    refine .inl ⟨hstop H sm, hd H ys sm hD ?_⟩
    rw [List.take_length] at hP
    exact hP
/-- over a list -/
theorem lc_rel {K : PySem.W.Frag} {a : Addr} (hl : SqL K H1 a (zs.map enc)) (hz : zs.length ≤ sizeLine) (hn : H1 D = none) (hR : ∀ z y H H' xs, H D = some (.lst xs) → SameBut D H H' → R z y H → R z y H')
    (hs : ∀ z ∈ zs, ∀ H, L2.Same H1 H → ∀ (Qy : VK) (Qn : Hp → Prop), (p z = true → ∀ y H', L2.Same H H' → R z y H' → Qy y H') → (p z = false → ∀ H', L2.Same H H' → Qn H') →
      g (enc z) (wipe σ vs) H fun σ2 H2 => wipe σ2 vs = wipe σ vs ∧ tt σ2 H2 fun b H3 => if b = true then te σ2 H3 Qy else Qn H3)
    (hd : ∀ H ys, L2.Same H1 H → H D = some (.lst ys) → Paired (fun z y => R z y H) (zs.filter p) ys → Qd H) :
    ∃ W : Nat → Nat → Hp → Prop, (∃ m, W 0 m (upd H1 D (.lst []))) ∧ ∀ i m H, W i m H →
      ((Itl K a).stop i H ∧ Qd H) ∨ ((Itl K a).go i H ∧ ∃ Nx : Hp → Prop, (∀ H', Nx H' → ∃ m', m' < m ∧ W (i + 1) m' H') ∧ ∀ x H', (Itl K a).yld i H x H' → g x (wipe σ vs) H' fun σ2 H2 => wipe σ2 vs = wipe σ vs ∧ tt σ2 H2 fun b H3 =>
        if b = true then te σ2 H3 fun y H4 => ∃ acc, H4 D = some (.lst acc) ∧ acc.length < sizeLine ∧ Nx (upd H4 D (.lst (acc ++ [y]))) else Nx H3) :=
  lc_relJ (Itl K a) (fun i H sm hi => ⟨_, enc zs[i], sm.seq hl, by rw [List.getElem?_map, List.getElem?_eq_getElem hi]; rfl⟩) (fun H sm => ⟨_, sm.seq hl, by rw [List.length_map]; exact Nat.le_refl _⟩)
    (fun i H x H' sm hi y => ⟨y.1, zs[i], List.getElem?_eq_getElem hi, by
      have e := y.2 _ (sm.seq hl)
      rw [List.getElem?_map, List.getElem?_eq_getElem hi] at e
      exact (Option.some.inj e).symm⟩) hz hn hR hs hd
theorem same_seqT {K : PySem.W.Frag} {H H' : Hp} {a : Addr} {xs : List V} (e : L2.Same H H') (h : SqT K H a xs) : SqT K H' a xs := by
  rcases h with (h | ⟨o, h⟩) | h
  · exact .inl (.inl (e _ _ h))
  · exact .inl (.inr ⟨o, e _ _ h⟩)
  · exact .inr h
/-- over a tuple -/
theorem lc_relT {K : PySem.W.Frag} {a : Addr} (hl : SqT K H1 a (zs.map enc)) (hz : zs.length ≤ sizeLine) (hn : H1 D = none) (hR : ∀ z y H H' xs, H D = some (.lst xs) → SameBut D H H' → R z y H → R z y H')
    (hs : ∀ z ∈ zs, ∀ H, L2.Same H1 H → ∀ (Qy : VK) (Qn : Hp → Prop), (p z = true → ∀ y H', L2.Same H H' → R z y H' → Qy y H') → (p z = false → ∀ H', L2.Same H H' → Qn H') →
      g (enc z) (wipe σ vs) H fun σ2 H2 => wipe σ2 vs = wipe σ vs ∧ tt σ2 H2 fun b H3 => if b = true then te σ2 H3 Qy else Qn H3)
    (hd : ∀ H ys, L2.Same H1 H → H D = some (.lst ys) → Paired (fun z y => R z y H) (zs.filter p) ys → Qd H) :
    ∃ W : Nat → Nat → Hp → Prop, (∃ m, W 0 m (upd H1 D (.lst []))) ∧ ∀ i m H, W i m H →
      ((Itt K a).stop i H ∧ Qd H) ∨ ((Itt K a).go i H ∧ ∃ Nx : Hp → Prop, (∀ H', Nx H' → ∃ m', m' < m ∧ W (i + 1) m' H') ∧ ∀ x H', (Itt K a).yld i H x H' → g x (wipe σ vs) H' fun σ2 H2 => wipe σ2 vs = wipe σ vs ∧ tt σ2 H2 fun b H3 =>
        if b = true then te σ2 H3 fun y H4 => ∃ acc, H4 D = some (.lst acc) ∧ acc.length < sizeLine ∧ Nx (upd H4 D (.lst (acc ++ [y]))) else Nx H3) :=
  lc_relJ (Itt K a) (fun i H sm hi => ⟨_, enc zs[i], same_seqT sm hl, by rw [List.getElem?_map, List.getElem?_eq_getElem hi]; rfl⟩) (fun H sm => ⟨_, same_seqT sm hl, by rw [List.length_map]; exact Nat.le_refl _⟩)
    (fun i H x H' sm hi y => ⟨y.1, zs[i], List.getElem?_eq_getElem hi, by
      have e := y.2 _ (same_seqT sm hl)
      rw [List.getElem?_map, List.getElem?_eq_getElem hi] at e
      exact (Option.some.inj e).symm⟩) hz hn hR hs hd
/-- over a dict's keys, the dict locked -/
theorem lc_relK {d : Addr} {od : Obj} {kf : α → Key × V} (hl : H1 d = some (.frz od (.dK (zs.map kf)))) (hz : zs.length ≤ sizeLine) (hn : H1 D = none) (hR : ∀ z y H H' xs, H D = some (.lst xs) → SameBut D H H' → R z y H → R z y H')
    (hs : ∀ z ∈ zs, ∀ H, L2.Same H1 H → ∀ (Qy : VK) (Qn : Hp → Prop), (p z = true → ∀ y H', L2.Same H H' → R z y H' → Qy y H') → (p z = false → ∀ H', L2.Same H H' → Qn H') →
      g (kV (kf z).1) (wipe σ vs) H fun σ2 H2 => wipe σ2 vs = wipe σ vs ∧ tt σ2 H2 fun b H3 => if b = true then te σ2 H3 Qy else Qn H3)
    (hd : ∀ H ys, L2.Same H1 H → H D = some (.lst ys) → Paired (fun z y => R z y H) (zs.filter p) ys → Qd H) :
    ∃ W : Nat → Nat → Hp → Prop, (∃ m, W 0 m (upd H1 D (.lst []))) ∧ ∀ i m H, W i m H →
      ((Itk d od (zs.map kf)).stop i H ∧ Qd H) ∨ ((Itk d od (zs.map kf)).go i H ∧ ∃ Nx : Hp → Prop, (∀ H', Nx H' → ∃ m', m' < m ∧ W (i + 1) m' H') ∧ ∀ x H', (Itk d od (zs.map kf)).yld i H x H' → g x (wipe σ vs) H' fun σ2 H2 => wipe σ2 vs = wipe σ vs ∧ tt σ2 H2 fun b H3 =>
        if b = true then te σ2 H3 fun y H4 => ∃ acc, H4 D = some (.lst acc) ∧ acc.length < sizeLine ∧ Nx (upd H4 D (.lst (acc ++ [y]))) else Nx H3) :=
  lc_relJ (enc := fun z => kV (kf z).1) (Itk d od (zs.map kf)) (fun i H sm hi => ⟨sm _ _ hl, by rw [List.length_map]; exact hi⟩) (fun H sm => ⟨sm _ _ hl, by rw [List.length_map]; exact Nat.le_refl _⟩)
    (fun i H x H' sm hi y => ⟨y.1, zs[i], List.getElem?_eq_getElem hi, by
      obtain ⟨k, v, e, ex⟩ := y.2
      rw [List.getElem?_map, List.getElem?_eq_getElem hi] at e
      have e2 : kf zs[i] = (k, v) := Option.some.inj e
      show x = kV (kf zs[i]).1
      rw [e2]
      exact ex⟩) hz hn hR hs hd
end
/-- a for over a dict's keys, the dict locked; Pv by the turn -/
theorem for_keys {α : Type} {d : Addr} {od : Obj} {zs : List α} {kf : α → Key × V} {g : TG} {tb : TS} {Dn : Ends} {σ : L2.St} {H : Hp} (Pv : Nat → L2.St → Hp → Prop) (h0 : Pv 0 σ H)
    (hl : ∀ i σ H, i ≤ zs.length → Pv i σ H → H d = some (.frz od (.dK (zs.map kf))))
    (hs : ∀ i z σ H, zs[i]? = some z → Pv i σ H → g (kV (kf z).1) σ H fun σ2 H2 => tb { Dn with nx := Pv (i + 1), ct := Pv (i + 1), bk := Dn.nx } σ2 H2)
    (hd : ∀ σ H, Pv zs.length σ H → Dn.nx σ H) :
    ∃ W : Nat → Nat → L2.St → Hp → Prop, (∃ m, W 0 m σ H) ∧ ∀ i m σ H, W i m σ H →
      ((Itk d od (zs.map kf)).stop i H ∧ Dn.nx σ H) ∨ ((Itk d od (zs.map kf)).go i H ∧ ∃ N : L2.St → Hp → Prop, (∀ σ' H', N σ' H' → ∃ m', m' < m ∧ W (i + 1) m' σ' H') ∧ ∀ x H', (Itk d od (zs.map kf)).yld i H x H' → g x σ H' fun σ2 H2 => tb { Dn with nx := N, ct := N, bk := Dn.nx } σ2 H2) := by
  refine ⟨fun i m σ H => m = zs.length - i ∧ i ≤ zs.length ∧ Pv i σ H, ⟨zs.length, by simp, Nat.zero_le _, h0⟩, ?_⟩
  rintro i m σ H ⟨rfl, hi, p⟩
  have q := hl i σ H hi p
  by_cases hlt : i < zs.length
  · refine .inr ⟨⟨q, by rw [List.length_map]; exact hlt⟩, Pv (i + 1), fun σ' H' p' => ⟨zs.length - (i + 1), by omega, rfl, hlt, p'⟩, fun x H' y => ?_⟩
    obtain ⟨e, k, v, e2, ex⟩ := y
    subst e
    rw [List.getElem?_map, List.getElem?_eq_getElem hlt] at e2
    have e3 : kf zs[i] = (k, v) := Option.some.inj e2
    have ex' : x = kV (kf zs[i]).1 := by rw [e3]; exact ex
    rw [ex']
    exact hs i zs[i] σ H' (List.getElem?_eq_getElem hlt) p
  · have e : i = zs.length := by omega
    subst e
    exact .inl ⟨⟨q, by rw [List.length_map]; exact Nat.le_refl _⟩, hd σ H p⟩

/-! ### sorted(a list of tuples of three ints) -/
section
variable {X : Cx}
/-- sorted by data: the items are the values val z, which read as enc z -/
def rSortedD (K : PySem.W.Frag) : List V → Hp → VK → Prop := fun vs H Q => ∃ (a : Addr) (α : Type) (zs : List α) (val : α → V) (enc : α → PyData), vs = [V.ref a] ∧ SqL K H a (zs.map val) ∧ (∀ z ∈ zs, Dp K H (val z) (enc z)) ∧
  PySem.W.AllAlike (zs.map enc) ∧ PySem.W.Sortable (zs.map enc) ∧ (∀ z ∈ zs, (enc z).depth ≤ 60) ∧
  ∀ p, H p = none → Q (.ref p) (upd H p (.lst ((zs.mergeSort (PySem.W.dataLe false enc)).map val)))
theorem vals_each {α : Type} {val : α → V} : ∀ {zs : List α} {us : List Value}, Vals (zs.map val) us → PySem.W.EachIs (fun u z => RelV (val z) u) us zs
  | [], _, h => by
    have h' : Vals [] _ := h
    cases h'
    exact .nil
  | z :: zs, _, h => by
    have h' : Vals (val z :: zs.map val) _ := h
    cases h' with
    | cons r t => exact .cons r (vals_each t)
theorem each_vals {α : Type} {val : α → V} : ∀ {zs : List α} {us : List Value}, PySem.W.EachIs (fun u z => RelV (val z) u) us zs → Vals (zs.map val) us
  | _, _, .nil => .nil
  | _, _, .cons r t => .cons r (each_vals t)
theorem cr_sortedD {k : Nat} (hr : Room k X.A) : CallR X (.builtin "sorted") (rSortedD X.K) := by
  intro pins s σ H vs us Q I r h
  obtain ⟨a, α, zs, val, enc, rfl, hs, hp, hal, hk, hdp, q⟩ := h
  obtain ⟨its, rv, hl, hz⟩ := I.list hs
  rw [Vals.ref1 r]
  rw [List.length_map] at hz
  have he := vals_each rv
  have hu := hr.units
  refine PySem.W.sorted_data (R := fun u z => RelV (val z) u) (enc := enc) hl.isList he ?_ hal hk hz (fun z hzm => ?_) fun out hlen hout => ?_
  · have : ∀ {us : List Value} {zs : List α}, (∀ z ∈ zs, Dp X.K H (val z) (enc z)) → PySem.W.EachIs (fun u z => RelV (val z) u) us zs → PySem.W.EachIs (fun u z => ∃ as, Reads s.heap u (enc z) as) us zs := by
      intro us zs hp he
      induction he with
      | nil => exact .nil
      | cons r t ih =>
        exact .cons (Dp.reads I _ _ _ (hp _ List.mem_cons_self) r) (ih fun z hz => hp z (List.mem_cons_of_mem _ hz))
    exact this hp he
  · have := hdp z hzm
    omega
  · obtain ⟨ep, he'⟩ := PyProof.Rows.sortedAll_at s.heap its out.toArray
    refine ⟨.ref _, upd H (s.heap.objs.size + 1) (.lst ((zs.mergeSort (PySem.W.dataLe false enc)).map val)), I.laid (t' := s.toks) (fun _ _ => PyProof.Rows.sortedAll_old) (Nat.le_succ _) ⟨?_, out, ep, each_vals hout, he'⟩, rfl, q _ (I.hok.fresh (Nat.le_succ _))⟩
    rw [List.length_map, List.length_mergeSort]
    exact hz
end
theorem dataLt_iii (x y z x' y' z' : Int) : PySem.W.dataLt (.tuple [.int x, .int y, .int z]) (.tuple [.int x', .int y', .int z']) = decide (x < x' ∨ (x = x' ∧ (y < y' ∨ (y = y' ∧ z < z')))) := by
  rw [PySem.W.dataLt_tuple, PySem.W.dataLt_cons (by simp [PySem.W.alike]), PySem.W.dataLt_cons (by simp [PySem.W.alike]), PySem.W.dataLt_cons (by simp [PySem.W.alike]), PySem.W.dataLt_int, PySem.W.dataLt_int, PySem.W.dataLt_int]
  have e : PyProof.Rows.lexLt PyProof.Rows.itemOrd (PySem.W.keyToksAll []) (PySem.W.keyToksAll []) = false := PyProof.Rows.lex_irrefl _
  rw [e]
  simp only [PyData.eqv, beq_iff_eq]
  by_cases h1 : x = x' <;> by_cases h2 : y = y' <;> by_cases h3 : z = z' <;> simp [h1, h2, h3]
/-! ### constants of the module -/
theorem pe_gs {X : Cx} {x z : Str} {pos : Pos} (h : ∃ t, X.mg x = some (.str z t)) (hg : Gl X x) (hd : (x == ("__debug__" : Str)) = false := by decide) : PE X (.Name x pos) (tC (.str z)) := by
  obtain ⟨t, e⟩ := h
  exact pe_glob (v := .str z) hg e ⟨_, rfl⟩ hd
theorem pe_gi {X : Cx} {x : Str} {z : Int} {pos : Pos} (h : ∃ t, X.mg x = some (.int z t)) (hg : Gl X x) (hd : (x == ("__debug__" : Str)) = false := by decide) : PE X (.Name x pos) (tC (.int z)) := by
  obtain ⟨t, e⟩ := h
  exact pe_glob (v := .int z) hg e ⟨_, rfl⟩ hd
/-! ### a for over a list, by its items -/
theorem for_zs {α : Type} {K : PySem.W.Frag} {a : Addr} {zs : List α} {enc : α → V} {g : TG} {tb : TS} {D : Ends} {σ : L2.St} {H : Hp} (Pv : Nat → L2.St → Hp → Prop) (h0 : Pv 0 σ H) (hl : ∀ i σ H, i ≤ zs.length → Pv i σ H → SqL K H a (zs.map enc))
    (hs : ∀ i z σ H, zs[i]? = some z → Pv i σ H → g (enc z) σ H fun σ2 H2 => tb { D with nx := Pv (i + 1), ct := Pv (i + 1), bk := D.nx } σ2 H2) (hd : ∀ σ H, Pv zs.length σ H → D.nx σ H) :
    ∃ W : Nat → Nat → L2.St → Hp → Prop, (∃ m, W 0 m σ H) ∧ ∀ i m σ H, W i m σ H →
      ((Itl K a).stop i H ∧ D.nx σ H) ∨ ((Itl K a).go i H ∧ ∃ N : L2.St → Hp → Prop, (∀ σ' H', N σ' H' → ∃ m', m' < m ∧ W (i + 1) m' σ' H') ∧ ∀ x H', (Itl K a).yld i H x H' → g x σ H' fun σ2 H2 => tb { D with nx := N, ct := N, bk := D.nx } σ2 H2) :=
  for_list (K := K) (a := a) (xs := zs.map enc) Pv h0 (fun i σ H hi p => hl i σ H (by rw [List.length_map] at hi; exact hi) p) (fun i y σ H hi p => by
    rw [List.getElem?_map] at hi
    obtain ⟨z, hz, e⟩ := Option.map_eq_some_iff.mp hi
    subst e
    exact hs i z σ H hz p) (fun σ H p => hd σ H (by rw [List.length_map] at p; exact p))
/-! ### min of three, a dict's pop -/
theorem call_min3 {X : Cx} (hc : X.calm = true) : CallR X (.builtin "min") (fun xs H Q => ∃ i j k, xs = [.int i, .int j, .int k] ∧ Q (.int (least3 i j k)) H) := by
  intro pins s σ H xs us Q I r h
  obtain ⟨i, j, k, rfl, q⟩ := h
  cases r with
  | cons r1 r =>
    cases r with
    | cons r2 r =>
      cases r with
      | cons r3 r =>
        cases r
        obtain ⟨t1, rfl⟩ := r1
        obtain ⟨t2, rfl⟩ := r2
        obtain ⟨t3, rfl⟩ := r3
        refine PySem.min_three_ints (I.ok.hd hc) fun h' tk hk => ⟨.int (least3 i j k), H, I.kept hk, ?_, q⟩
        unfold least3 imin
        by_cases h1 : j < i
        · rw [if_pos h1, if_pos h1]
          by_cases h2 : k < j
          · rw [if_pos h2, if_pos h2]
            exact ⟨_, rfl⟩
          · rw [if_neg h2, if_neg h2]
            exact ⟨_, rfl⟩
        · rw [if_neg h1, if_neg h1]
          by_cases h2 : k < i
          · rw [if_pos h2, if_pos h2]
            exact ⟨_, rfl⟩
          · rw [if_neg h2, if_neg h2]
            exact ⟨_, rfl⟩
end FB

set_option maxRecDepth 100000
namespace FB
open PySem L2
/-! ### the text by places -/
def top (i : Nat) : Stmt := PySem.Challenge.pw_fairbook_k22_whole_best_first.main.body.getD i (.Pass ⟨0, 0, 0, 0⟩)
abbrev s_O_init : Stmt := inClass (top 13) 0
abbrev s_O_show : Stmt := inClass (top 13) 1
abbrev s_O_suits : Stmt := inClass (top 13) 2
abbrev s_O_rank : Stmt := inClass (top 13) 3
abbrev s_other_side : Stmt := top 14
abbrev s_is_count : Stmt := top 15
abbrev s_look_order : Stmt := top 16
abbrev s_can_fill : Stmt := top 18
abbrev s_meet : Stmt := top 19
abbrev s_matched : Stmt := top 20
abbrev s_place : Stmt := top 21
abbrev s_cancel : Stmt := top 22
abbrev s_change : Stmt := top 23
abbrev s_B_init : Stmt := inClass (top 25) 0
abbrev s_B_row : Stmt := inClass (top 25) 1
abbrev s_B_resting : Stmt := inClass (top 25) 2
abbrev s_B_depth : Stmt := inClass (top 25) 3
abbrev s_B_need : Stmt := inClass (top 25) 4
abbrev s_B_left : Stmt := inClass (top 25) 5
abbrev s_B_shown : Stmt := inClass (top 25) 6
abbrev s_B_is_calling : Stmt := inClass (top 25) 9
abbrev s_B_put : Stmt := inClass (top 25) 10
abbrev s_B_trade : Stmt := inClass (top 25) 11
abbrev s_call : Stmt := top 27
abbrev s_wanted : Stmt := top 28
abbrev s_call_price : Stmt := top 29
abbrev s_uncross : Stmt := top 30
abbrev s_l_cell : Stmt := top 32
abbrev s_l_mix : Stmt := top 33
abbrev s_l_price : Stmt := top 34
abbrev s_l_deed : Stmt := top 35
abbrev s_l_asked : Stmt := top 36
abbrev s_l_keep : Stmt := top 37
abbrev s_l_shown : Stmt := top 38
abbrev s_l_suits : Stmt := top 39
abbrev s_l_good : Stmt := top 40
abbrev s_law : Stmt := top 41
/-! ### what the walks lean on -/
structure Tx (K : PySem.W.Frag) (mg : Str → Option Value) : Prop where
  f_O_init : FD K "__init__" "Order.__init__" s_O_init (He.ma K (He.ga K "Order") "__init__")
  f_O_show : FD K "show" "Order.show" s_O_show (He.ma K (He.ga K "Order") "show")
  f_O_suits : FD K "suits" "Order.suits" s_O_suits (He.ma K (He.ga K "Order") "suits")
  f_O_rank : FD K "rank" "Order.rank" s_O_rank (He.ma K (He.ga K "Order") "rank")
  f_other_side : FD K "other_side" "other_side" s_other_side (He.ga K "other_side")
  f_is_count : FD K "is_count" "is_count" s_is_count (He.ga K "is_count")
  f_look_order : FD K "look_order" "look_order" s_look_order (He.ga K "look_order")
  f_can_fill : FD K "can_fill" "can_fill" s_can_fill (He.ga K "can_fill")
  f_meet : FD K "meet" "meet" s_meet (He.ga K "meet")
  f_matched : FD K "matched" "matched" s_matched (He.ga K "matched")
  f_place : FD K "place" "place" s_place (He.ga K "place")
  f_cancel : FD K "cancel" "cancel" s_cancel (He.ga K "cancel")
  f_change : FD K "change" "change" s_change (He.ga K "change")
  f_B_init : FD K "__init__" "Book.__init__" s_B_init (He.ma K (He.ga K "Book") "__init__")
  f_B_row : FD K "row" "Book.row" s_B_row (He.ma K (He.ga K "Book") "row")
  f_B_resting : FD K "resting" "Book.resting" s_B_resting (He.ma K (He.ga K "Book") "resting")
  f_B_depth : FD K "depth" "Book.depth" s_B_depth (He.ma K (He.ga K "Book") "depth")
  f_B_need : FD K "need" "Book.need" s_B_need (He.ma K (He.ga K "Book") "need")
  f_B_left : FD K "left" "Book.left" s_B_left (He.ma K (He.ga K "Book") "left")
  f_B_shown : FD K "shown" "Book.shown" s_B_shown (He.ma K (He.ga K "Book") "shown")
  f_B_is_calling : FD K "is_calling" "Book.is_calling" s_B_is_calling (He.ma K (He.ga K "Book") "is_calling")
  f_B_put : FD K "put" "Book.put" s_B_put (He.ma K (He.ga K "Book") "put")
  f_B_trade : FD K "trade" "Book.trade" s_B_trade (He.ma K (He.ga K "Book") "trade")
  f_call : FD K "call" "call" s_call (He.ga K "call")
  f_wanted : FD K "wanted" "wanted" s_wanted (He.ga K "wanted")
  f_call_price : FD K "call_price" "call_price" s_call_price (He.ga K "call_price")
  f_uncross : FD K "uncross" "uncross" s_uncross (He.ga K "uncross")
  f_l_cell : FD K "_law_cell" "_law_cell" s_l_cell (He.ga K "_law_cell")
  f_l_mix : FD K "_law_mix" "_law_mix" s_l_mix (He.ga K "_law_mix")
  f_l_price : FD K "_law_price" "_law_price" s_l_price (He.ga K "_law_price")
  f_l_deed : FD K "_law_deed" "_law_deed" s_l_deed (He.ga K "_law_deed")
  f_l_asked : FD K "_law_asked" "_law_asked" s_l_asked (He.ga K "_law_asked")
  f_l_keep : FD K "_law_keep" "_law_keep" s_l_keep (He.ga K "_law_keep")
  f_l_shown : FD K "_law_shown" "_law_shown" s_l_shown (He.ga K "_law_shown")
  f_l_suits : FD K "_law_suits" "_law_suits" s_l_suits (He.ga K "_law_suits")
  f_l_good : FD K "_law_good" "_law_good" s_l_good (He.ga K "_law_good")
  f_law : FD K "law" "law" s_law (He.ga K "law")
  g_BadOrder : mg "BadOrder" = some (.ref (He.ga K "BadOrder"))
  g_Book : mg "Book" = some (.ref (He.ga K "Book"))
  g_BookError : mg "BookError" = some (.ref (He.ga K "BookError"))
  g_NotNow : mg "NotNow" = some (.ref (He.ga K "NotNow"))
  g_NotThere : mg "NotThere" = some (.ref (He.ga K "NotThere"))
  g_Order : mg "Order" = some (.ref (He.ga K "Order"))
  g_l_asked : mg "_law_asked" = some (.ref (He.ga K "_law_asked"))
  g_l_cell : mg "_law_cell" = some (.ref (He.ga K "_law_cell"))
  g_l_deed : mg "_law_deed" = some (.ref (He.ga K "_law_deed"))
  g_l_good : mg "_law_good" = some (.ref (He.ga K "_law_good"))
  g_l_keep : mg "_law_keep" = some (.ref (He.ga K "_law_keep"))
  g_l_mix : mg "_law_mix" = some (.ref (He.ga K "_law_mix"))
  g_l_price : mg "_law_price" = some (.ref (He.ga K "_law_price"))
  g_l_shown : mg "_law_shown" = some (.ref (He.ga K "_law_shown"))
  g_l_suits : mg "_law_suits" = some (.ref (He.ga K "_law_suits"))
  g_call : mg "call" = some (.ref (He.ga K "call"))
  g_call_price : mg "call_price" = some (.ref (He.ga K "call_price"))
  g_can_fill : mg "can_fill" = some (.ref (He.ga K "can_fill"))
  g_cancel : mg "cancel" = some (.ref (He.ga K "cancel"))
  g_change : mg "change" = some (.ref (He.ga K "change"))
  g_is_count : mg "is_count" = some (.ref (He.ga K "is_count"))
  g_law : mg "law" = some (.ref (He.ga K "law"))
  g_look_order : mg "look_order" = some (.ref (He.ga K "look_order"))
  g_matched : mg "matched" = some (.ref (He.ga K "matched"))
  g_meet : mg "meet" = some (.ref (He.ga K "meet"))
  g_other_side : mg "other_side" = some (.ref (He.ga K "other_side"))
  g_place : mg "place" = some (.ref (He.ga K "place"))
  g_uncross : mg "uncross" = some (.ref (He.ga K "uncross"))
  g_wanted : mg "wanted" = some (.ref (He.ga K "wanted"))
  z_sorted : mg "sorted" = none
  z_sum : mg "sum" = none
  z_min : mg "min" = none
  z_abs : mg "abs" = none
  z_len : mg "len" = none
  z_range : mg "range" = none
  z_int : mg "int" = none
  z_isinstance : mg "isinstance" = none
  z_any : mg "any" = none
  z_all : mg "all" = none
  z_tuple : mg "tuple" = none
  z_str : mg "str" = none
  z_ValueError : mg "ValueError" = none
  k_BUY : ∃ t, mg "BUY" = some (.str "buy" t)
  k_SELL : ∃ t, mg "SELL" = some (.str "sell" t)
  k_REST : ∃ t, mg "REST" = some (.str "rest" t)
  k_MOST_COUNT : ∃ t, mg "MOST_COUNT" = some (.int 10000 t)
  k_MOST_PRICE : ∃ t, mg "MOST_PRICE" = some (.int 1000000000 t)
  clO : Cls K (He.ga K "Order")
  mkO : Mk K (He.ga K "Order") (He.ma K (He.ga K "Order") "__init__")
  nO_number : NoAttr K (He.ga K "Order") "number"
  nO_owner : NoAttr K (He.ga K "Order") "owner"
  nO_side : NoAttr K (He.ga K "Order") "side"
  nO_price : NoAttr K (He.ga K "Order") "price"
  nO_rest : NoAttr K (He.ga K "Order") "rest"
  nO_shows : NoAttr K (He.ga K "Order") "shows"
  nO_part : NoAttr K (He.ga K "Order") "part"
  nO_place : NoAttr K (He.ga K "Order") "place"
  clB : Cls K (He.ga K "Book")
  mkB : Mk K (He.ga K "Book") (He.ma K (He.ga K "Book") "__init__")
  nB_orders : NoAttr K (He.ga K "Book") "orders"
  nB_many : NoAttr K (He.ga K "Book") "many"
  nB_places : NoAttr K (He.ga K "Book") "places"
  nB_price : NoAttr K (He.ga K "Book") "price"
  nB_traded : NoAttr K (He.ga K "Book") "traded"
  nB_calling : NoAttr K (He.ga K "Book") "calling"
  m_O_show : Meth K (He.ga K "Order") "show" (He.ma K (He.ga K "Order") "show")
  m_O_suits : Meth K (He.ga K "Order") "suits" (He.ma K (He.ga K "Order") "suits")
  m_O_rank : Meth K (He.ga K "Order") "rank" (He.ma K (He.ga K "Order") "rank")
  m_B_row : Meth K (He.ga K "Book") "row" (He.ma K (He.ga K "Book") "row")
  m_B_resting : Meth K (He.ga K "Book") "resting" (He.ma K (He.ga K "Book") "resting")
  m_B_depth : Meth K (He.ga K "Book") "depth" (He.ma K (He.ga K "Book") "depth")
  m_B_need : Meth K (He.ga K "Book") "need" (He.ma K (He.ga K "Book") "need")
  m_B_left : Meth K (He.ga K "Book") "left" (He.ma K (He.ga K "Book") "left")
  m_B_shown : Meth K (He.ga K "Book") "shown" (He.ma K (He.ga K "Book") "shown")
  m_B_is_calling : Meth K (He.ga K "Book") "is_calling" (He.ma K (He.ga K "Book") "is_calling")
  m_B_put : Meth K (He.ga K "Book") "put" (He.ma K (He.ga K "Book") "put")
  m_B_trade : Meth K (He.ga K "Book") "trade" (He.ma K (He.ga K "Book") "trade")
  e_BadOrder : PySem.W.excIn K (He.ga K "BadOrder") He.veBase "ValueError.__new__" = true ∧ PySem.W.keepIn K (.ref (He.ga K "BadOrder")) = true ∧ PySem.W.subIn K (.ref (He.ga K "BadOrder")) (.type "BaseException") = some true ∧ PySem.W.typeIn K (.ref (He.ga K "BadOrder")) = some (.type "type")
  x_BadOrder : PySem.W.exmOne K (.ref (He.ga K "BadOrder")) (.ref (He.ga K "BookError")) = some true
  e_NotThere : PySem.W.excIn K (He.ga K "NotThere") He.veBase "ValueError.__new__" = true ∧ PySem.W.keepIn K (.ref (He.ga K "NotThere")) = true ∧ PySem.W.subIn K (.ref (He.ga K "NotThere")) (.type "BaseException") = some true ∧ PySem.W.typeIn K (.ref (He.ga K "NotThere")) = some (.type "type")
  x_NotThere : PySem.W.exmOne K (.ref (He.ga K "NotThere")) (.ref (He.ga K "BookError")) = some true
  e_NotNow : PySem.W.excIn K (He.ga K "NotNow") He.veBase "ValueError.__new__" = true ∧ PySem.W.keepIn K (.ref (He.ga K "NotNow")) = true ∧ PySem.W.subIn K (.ref (He.ga K "NotNow")) (.type "BaseException") = some true ∧ PySem.W.typeIn K (.ref (He.ga K "NotNow")) = some (.type "type")
  x_NotNow : PySem.W.exmOne K (.ref (He.ga K "NotNow")) (.ref (He.ga K "BookError")) = some true
  t_WAYS : ∀ H : Hp, SqT K H (He.ga K "WAYS") [.str "rest", .str "now", .str "whole"]
  g_WAYS : mg "WAYS" = some (.ref (He.ga K "WAYS"))
  i_BadOrder : ExcC K (He.ga K "BadOrder")
  i_BadOrder_BadOrder : PySem.W.kitOne K (.ref (He.ga K "BadOrder")) (.ref (He.ga K "BadOrder")) = some true
  i_BadOrder_NotThere : PySem.W.kitOne K (.ref (He.ga K "BadOrder")) (.ref (He.ga K "NotThere")) = some false
  i_BadOrder_NotNow : PySem.W.kitOne K (.ref (He.ga K "BadOrder")) (.ref (He.ga K "NotNow")) = some false
  i_BadOrder_VE : PySem.W.kitOne K (.ref (He.ga K "BadOrder")) (.type "ValueError") = some true
  i_NotThere : ExcC K (He.ga K "NotThere")
  i_NotThere_BadOrder : PySem.W.kitOne K (.ref (He.ga K "NotThere")) (.ref (He.ga K "BadOrder")) = some false
  i_NotThere_NotThere : PySem.W.kitOne K (.ref (He.ga K "NotThere")) (.ref (He.ga K "NotThere")) = some true
  i_NotThere_NotNow : PySem.W.kitOne K (.ref (He.ga K "NotThere")) (.ref (He.ga K "NotNow")) = some false
  i_NotThere_VE : PySem.W.kitOne K (.ref (He.ga K "NotThere")) (.type "ValueError") = some true
  i_NotNow : ExcC K (He.ga K "NotNow")
  i_NotNow_BadOrder : PySem.W.kitOne K (.ref (He.ga K "NotNow")) (.ref (He.ga K "BadOrder")) = some false
  i_NotNow_NotThere : PySem.W.kitOne K (.ref (He.ga K "NotNow")) (.ref (He.ga K "NotThere")) = some false
  i_NotNow_NotNow : PySem.W.kitOne K (.ref (He.ga K "NotNow")) (.ref (He.ga K "NotNow")) = some true
  i_NotNow_VE : PySem.W.kitOne K (.ref (He.ga K "NotNow")) (.type "ValueError") = some true
end FB

set_option maxRecDepth 100000
set_option maxHeartbeats 4000000
/-! How orders and the book stand in the heap; their fields read and written. -/
namespace FB
open PySem PySem.Spec PyProof.Rows L2

def optV : Option Int → V
  | none => .non
  | some i => .int i
abbrev CO (K : PySem.W.Frag) : Addr := He.ga K "Order"
abbrev CB (K : PySem.W.Frag) : Addr := He.ga K "Book"
/-- an order's attributes, in the order in which __init__ stores them -/
def ordF (o : Ord) : List (Str × V) := [("number", .int o.num), ("owner", .int o.own), ("side", .str (sideStr o.buy)), ("price", optV o.price), ("rest", .int o.rest), ("shows", optV o.shows), ("part", .int o.part), ("place", .int o.place)]
/-- the book's -/
def bkF (d : Addr) (B : Bk) : List (Str × V) := [("orders", .ref d), ("many", .int B.many), ("places", .int B.places), ("price", optV B.last), ("traded", .int B.traded), ("calling", .bl B.calling)]
def OrdAt (K : PySem.W.Frag) (H : Hp) (o : Ord) : Prop := ∃ dx, H o.ad = some (.ins (CO K) dx (ordF o))
/-- an entry of the dict of orders -/
def entry (o : Ord) : Key × V := (Sum.inl o.num, V.ref o.ad)
structure BookAt (K : PySem.W.Frag) (H : Hp) (b d : Addr) (B : Bk) : Prop where
  bk : ∃ dx, H b = some (.ins (CB K) dx (bkF d B))
  dc : H d = some (.dK (B.ords.map entry))
  os : ∀ o ∈ B.ords, OrdAt K H o
  nda : (B.ords.map (·.ad)).Nodup
  ndn : (B.ords.map (·.num)).Nodup
def isIns : HO → Bool
  | .ins _ _ _ => true
  | _ => false
/-- all that stood is as it was, but instances and what stands at d -/
def Kd (d : Addr) (H H' : Hp) : Prop := ∀ a x, H a = some x → isIns x = false → a ≠ d → H' a = some x
theorem Kd.refl (d : Addr) (H : Hp) : Kd d H H := fun _ _ h _ _ => h
theorem Kd.trans {d : Addr} {H H1 H2 : Hp} (a : Kd d H H1) (b : Kd d H1 H2) : Kd d H H2 := fun c x h i n => b c x (a c x h i n) i n
theorem Kd.of {d : Addr} {H H' : Hp} (s : L2.Same H H') : Kd d H H' := fun c x h _ _ => s c x h
/-- all but what stands at p is as it was -/
abbrev SB := SameBut
theorem SameBut.refl (p : Addr) (H : Hp) : SameBut p H H := fun _ _ _ h => h
theorem sb_upd {H : Hp} {p : Addr} {o : HO} : SameBut p H (upd H p o) := fun b u hb e => by rw [upd_ne hb]; exact e
theorem SameBut.of {p : Addr} {H H' : Hp} (s : L2.Same H H') : SameBut p H H' := fun b u _ e => s b u e
theorem OrdAt.same {K : PySem.W.Frag} {H H' : Hp} {o : Ord} (h : OrdAt K H o) (s : L2.Same H H') : OrdAt K H' o := let ⟨dx, e⟩ := h; ⟨dx, s _ _ e⟩
theorem BookAt.same {K : PySem.W.Frag} {H H' : Hp} {b d : Addr} {B : Bk} (h : BookAt K H b d B) (s : L2.Same H H') : BookAt K H' b d B :=
  ⟨let ⟨dx, e⟩ := h.bk; ⟨dx, s _ _ e⟩, s _ _ h.dc, fun o ho => (h.os o ho).same s, h.nda, h.ndn⟩
theorem OrdAt.but {K : PySem.W.Frag} {H H' : Hp} {o : Ord} {p : Addr} (h : OrdAt K H o) (s : SameBut p H H') (n : o.ad ≠ p) : OrdAt K H' o := let ⟨dx, e⟩ := h; ⟨dx, s _ _ n e⟩
theorem BookAt.but {K : PySem.W.Frag} {H H' : Hp} {b d p : Addr} {B : Bk} (h : BookAt K H b d B) (s : SameBut p H H') (nb : b ≠ p) (nd : d ≠ p) (no : ∀ o ∈ B.ords, o.ad ≠ p) : BookAt K H' b d B :=
  ⟨let ⟨dx, e⟩ := h.bk; ⟨dx, s _ _ nb e⟩, s _ _ nd h.dc, fun o ho => (h.os o ho).but s (no o ho), h.nda, h.ndn⟩
theorem BookAt.bd {K : PySem.W.Frag} {H : Hp} {b d : Addr} {B : Bk} (h : BookAt K H b d B) : b ≠ d := by
  obtain ⟨dx, e⟩ := h.bk
  exact ne_of e h.dc (by intro z; cases z)
theorem OrdAt.nd {K : PySem.W.Frag} {H : Hp} {b d : Addr} {B : Bk} {o : Ord} (h : OrdAt K H o) (hb : BookAt K H b d B) : o.ad ≠ d := by
  obtain ⟨dx, e⟩ := h
  exact ne_of e hb.dc (by intro z; cases z)
theorem OrdAt.nb {K : PySem.W.Frag} {H : Hp} {b d : Addr} {B : Bk} {o : Ord} (h : OrdAt K H o) (hb : BookAt K H b d B) : o.ad ≠ b := by
  obtain ⟨dx, e⟩ := h
  obtain ⟨dy, e2⟩ := hb.bk
  refine ne_of e e2 (fun z => ?_)
  injection z with _ _ z
  exact absurd (show (8 : Nat) = 6 from congrArg List.length z) (by decide)
theorem Kd.ins {d p : Addr} {H H' : Hp} {C dx : Addr} {fs : List (Str × V)} (e : H p = some (.ins C dx fs)) (s : SameBut p H H') : Kd d H H' := fun a x h i n => s a x (fun z => by
  subst z
  rw [e] at h
  cases h
  cases i) h
theorem Kd.ord {K : PySem.W.Frag} {d : Addr} {H H' : Hp} {o : Ord} (h : OrdAt K H o) (s : SameBut o.ad H H') : Kd d H H' := let ⟨_, e⟩ := h; Kd.ins e s
theorem Kd.dct {d : Addr} {H H' : Hp} (s : SameBut d H H') : Kd d H H' := fun a x h _ n => s a x n h
theorem Kd.lst {d : Addr} {H H' : Hp} (k : Kd d H H') {a : Addr} {xs : List V} (h : H a = some (.lst xs)) (n : a ≠ d) : H' a = some (.lst xs) := k _ _ h rfl n

/-! ### fields read -/
section
variable {K : PySem.W.Frag} {mg : Str → Option Value} {H : Hp} {o : Ord} {b d : Addr} {B : Bk}
theorem rf {f : Str} {v : V} {a C dx : Addr} {fs : List (Str × V)} (h : H a = some (.ins C dx fs)) (c : Cls K C) (n : NoAttr K C f) (l : fs.lookup f = some v) {Q : V → Prop} (q : Q v) :
    ∃ a' C dx fs v, V.ref a = .ref a' ∧ H a' = some (.ins C dx fs) ∧ Cls K C ∧ NoAttr K C f ∧ fs.lookup f = some v ∧ Q v := ⟨a, C, dx, fs, v, rfl, h, c, n, l, q⟩
theorem ro_number (T : Tx K mg) (h : OrdAt K H o) {Q : V → Prop} (q : Q (.int o.num)) : ∃ a C dx fs v, V.ref o.ad = .ref a ∧ H a = some (.ins C dx fs) ∧ Cls K C ∧ NoAttr K C "number" ∧ fs.lookup ("number" : Str) = some v ∧ Q v := let ⟨_, e⟩ := h; rf e T.clO T.nO_number rfl q
theorem ro_owner (T : Tx K mg) (h : OrdAt K H o) {Q : V → Prop} (q : Q (.int o.own)) : ∃ a C dx fs v, V.ref o.ad = .ref a ∧ H a = some (.ins C dx fs) ∧ Cls K C ∧ NoAttr K C "owner" ∧ fs.lookup ("owner" : Str) = some v ∧ Q v := let ⟨_, e⟩ := h; rf e T.clO T.nO_owner rfl q
theorem ro_side (T : Tx K mg) (h : OrdAt K H o) {Q : V → Prop} (q : Q (.str (sideStr o.buy))) : ∃ a C dx fs v, V.ref o.ad = .ref a ∧ H a = some (.ins C dx fs) ∧ Cls K C ∧ NoAttr K C "side" ∧ fs.lookup ("side" : Str) = some v ∧ Q v := let ⟨_, e⟩ := h; rf e T.clO T.nO_side rfl q
theorem ro_price (T : Tx K mg) (h : OrdAt K H o) {Q : V → Prop} (q : Q (optV o.price)) : ∃ a C dx fs v, V.ref o.ad = .ref a ∧ H a = some (.ins C dx fs) ∧ Cls K C ∧ NoAttr K C "price" ∧ fs.lookup ("price" : Str) = some v ∧ Q v := let ⟨_, e⟩ := h; rf e T.clO T.nO_price rfl q
theorem ro_rest (T : Tx K mg) (h : OrdAt K H o) {Q : V → Prop} (q : Q (.int o.rest)) : ∃ a C dx fs v, V.ref o.ad = .ref a ∧ H a = some (.ins C dx fs) ∧ Cls K C ∧ NoAttr K C "rest" ∧ fs.lookup ("rest" : Str) = some v ∧ Q v := let ⟨_, e⟩ := h; rf e T.clO T.nO_rest rfl q
theorem ro_shows (T : Tx K mg) (h : OrdAt K H o) {Q : V → Prop} (q : Q (optV o.shows)) : ∃ a C dx fs v, V.ref o.ad = .ref a ∧ H a = some (.ins C dx fs) ∧ Cls K C ∧ NoAttr K C "shows" ∧ fs.lookup ("shows" : Str) = some v ∧ Q v := let ⟨_, e⟩ := h; rf e T.clO T.nO_shows rfl q
theorem ro_part (T : Tx K mg) (h : OrdAt K H o) {Q : V → Prop} (q : Q (.int o.part)) : ∃ a C dx fs v, V.ref o.ad = .ref a ∧ H a = some (.ins C dx fs) ∧ Cls K C ∧ NoAttr K C "part" ∧ fs.lookup ("part" : Str) = some v ∧ Q v := let ⟨_, e⟩ := h; rf e T.clO T.nO_part rfl q
theorem ro_place (T : Tx K mg) (h : OrdAt K H o) {Q : V → Prop} (q : Q (.int o.place)) : ∃ a C dx fs v, V.ref o.ad = .ref a ∧ H a = some (.ins C dx fs) ∧ Cls K C ∧ NoAttr K C "place" ∧ fs.lookup ("place" : Str) = some v ∧ Q v := let ⟨_, e⟩ := h; rf e T.clO T.nO_place rfl q
theorem rb_orders (T : Tx K mg) (h : BookAt K H b d B) {Q : V → Prop} (q : Q (.ref d)) : ∃ a C dx fs v, V.ref b = .ref a ∧ H a = some (.ins C dx fs) ∧ Cls K C ∧ NoAttr K C "orders" ∧ fs.lookup ("orders" : Str) = some v ∧ Q v := let ⟨_, e⟩ := h.bk; rf e T.clB T.nB_orders rfl q
theorem rb_many (T : Tx K mg) (h : BookAt K H b d B) {Q : V → Prop} (q : Q (.int B.many)) : ∃ a C dx fs v, V.ref b = .ref a ∧ H a = some (.ins C dx fs) ∧ Cls K C ∧ NoAttr K C "many" ∧ fs.lookup ("many" : Str) = some v ∧ Q v := let ⟨_, e⟩ := h.bk; rf e T.clB T.nB_many rfl q
theorem rb_places (T : Tx K mg) (h : BookAt K H b d B) {Q : V → Prop} (q : Q (.int B.places)) : ∃ a C dx fs v, V.ref b = .ref a ∧ H a = some (.ins C dx fs) ∧ Cls K C ∧ NoAttr K C "places" ∧ fs.lookup ("places" : Str) = some v ∧ Q v := let ⟨_, e⟩ := h.bk; rf e T.clB T.nB_places rfl q
theorem rb_price (T : Tx K mg) (h : BookAt K H b d B) {Q : V → Prop} (q : Q (optV B.last)) : ∃ a C dx fs v, V.ref b = .ref a ∧ H a = some (.ins C dx fs) ∧ Cls K C ∧ NoAttr K C "price" ∧ fs.lookup ("price" : Str) = some v ∧ Q v := let ⟨_, e⟩ := h.bk; rf e T.clB T.nB_price rfl q
theorem rb_traded (T : Tx K mg) (h : BookAt K H b d B) {Q : V → Prop} (q : Q (.int B.traded)) : ∃ a C dx fs v, V.ref b = .ref a ∧ H a = some (.ins C dx fs) ∧ Cls K C ∧ NoAttr K C "traded" ∧ fs.lookup ("traded" : Str) = some v ∧ Q v := let ⟨_, e⟩ := h.bk; rf e T.clB T.nB_traded rfl q
theorem rb_calling (T : Tx K mg) (h : BookAt K H b d B) {Q : V → Prop} (q : Q (.bl B.calling)) : ∃ a C dx fs v, V.ref b = .ref a ∧ H a = some (.ins C dx fs) ∧ Cls K C ∧ NoAttr K C "calling" ∧ fs.lookup ("calling" : Str) = some v ∧ Q v := let ⟨_, e⟩ := h.bk; rf e T.clB T.nB_calling rfl q

/-! ### fields written -/
theorem wf {f : Str} {y : V} {a C dx : Addr} {fs : List (Str × V)} (h : H a = some (.ins C dx fs)) (c : Cls K C) (n : NoAttr K C f) (l : fs.length < 1000) {R : Hp → Prop} (q : R (upd H a (.ins C dx (putF f y fs)))) :
    ∃ a' C dx fs, V.ref a = .ref a' ∧ H a' = some (.ins C dx fs) ∧ Cls K C ∧ NoAttr K C f ∧ fs.length < 1000 ∧ R (upd H a' (.ins C dx (putF f y fs))) := ⟨a, C, dx, fs, rfl, h, c, n, l, q⟩
theorem wo_gen {f : Str} {y : V} {o' : Ord} (T : Tx K mg) (n : NoAttr K (CO K) f) (h : OrdAt K H o) (e : putF f y (ordF o) = ordF o') (ea : o'.ad = o.ad) {R : Hp → Prop} (q : ∀ H', OrdAt K H' o' → SameBut o.ad H H' → R H') :
    ∃ a C dx fs, V.ref o.ad = .ref a ∧ H a = some (.ins C dx fs) ∧ Cls K C ∧ NoAttr K C f ∧ fs.length < 1000 ∧ R (upd H a (.ins C dx (putF f y fs))) := by
  obtain ⟨dx, h⟩ := h
  refine wf h T.clO n (by show 8 < 1000; decide) (q _ ⟨dx, ?_⟩ sb_upd)
  rw [ea, upd_same, e]
theorem wo_rest (T : Tx K mg) (h : OrdAt K H o) {z : Int} {R : Hp → Prop} (q : ∀ H', OrdAt K H' { o with rest := z } → SameBut o.ad H H' → R H') :
    ∃ a C dx fs, V.ref o.ad = .ref a ∧ H a = some (.ins C dx fs) ∧ Cls K C ∧ NoAttr K C "rest" ∧ fs.length < 1000 ∧ R (upd H a (.ins C dx (putF "rest" (.int z) fs))) := wo_gen (o' := { o with rest := z }) T T.nO_rest h rfl rfl q
theorem wo_part (T : Tx K mg) (h : OrdAt K H o) {z : Int} {R : Hp → Prop} (q : ∀ H', OrdAt K H' { o with part := z } → SameBut o.ad H H' → R H') :
    ∃ a C dx fs, V.ref o.ad = .ref a ∧ H a = some (.ins C dx fs) ∧ Cls K C ∧ NoAttr K C "part" ∧ fs.length < 1000 ∧ R (upd H a (.ins C dx (putF "part" (.int z) fs))) := wo_gen (o' := { o with part := z }) T T.nO_part h rfl rfl q
theorem wo_place (T : Tx K mg) (h : OrdAt K H o) {z : Int} {R : Hp → Prop} (q : ∀ H', OrdAt K H' { o with place := z } → SameBut o.ad H H' → R H') :
    ∃ a C dx fs, V.ref o.ad = .ref a ∧ H a = some (.ins C dx fs) ∧ Cls K C ∧ NoAttr K C "place" ∧ fs.length < 1000 ∧ R (upd H a (.ins C dx (putF "place" (.int z) fs))) := wo_gen (o' := { o with place := z }) T T.nO_place h rfl rfl q
theorem wb_gen {f : Str} {y : V} {B' : Bk} (T : Tx K mg) (n : NoAttr K (CB K) f) (h : BookAt K H b d B) (e : putF f y (bkF d B) = bkF d B') (eo : B'.ords = B.ords) {R : Hp → Prop} (q : ∀ H', BookAt K H' b d B' → SameBut b H H' → R H') :
    ∃ a C dx fs, V.ref b = .ref a ∧ H a = some (.ins C dx fs) ∧ Cls K C ∧ NoAttr K C f ∧ fs.length < 1000 ∧ R (upd H a (.ins C dx (putF f y fs))) := by
  obtain ⟨dx, hb⟩ := h.bk
  refine wf hb T.clB n (by show 6 < 1000; decide) (q _ ⟨⟨dx, by rw [upd_same, e]⟩, ?_, ?_, by rw [eo]; exact h.nda, by rw [eo]; exact h.ndn⟩ sb_upd)
  · rw [upd_ne (Ne.symm h.bd), eo]
    exact h.dc
  · intro o ho
    rw [eo] at ho
    exact (h.os o ho).but sb_upd ((h.os o ho).nb h)
theorem wb_many (T : Tx K mg) (h : BookAt K H b d B) {z : Int} {R : Hp → Prop} (q : ∀ H', BookAt K H' b d { B with many := z } → SameBut b H H' → R H') :
    ∃ a C dx fs, V.ref b = .ref a ∧ H a = some (.ins C dx fs) ∧ Cls K C ∧ NoAttr K C "many" ∧ fs.length < 1000 ∧ R (upd H a (.ins C dx (putF "many" (.int z) fs))) := wb_gen (B' := { B with many := z }) T T.nB_many h rfl rfl q
theorem wb_places (T : Tx K mg) (h : BookAt K H b d B) {z : Int} {R : Hp → Prop} (q : ∀ H', BookAt K H' b d { B with places := z } → SameBut b H H' → R H') :
    ∃ a C dx fs, V.ref b = .ref a ∧ H a = some (.ins C dx fs) ∧ Cls K C ∧ NoAttr K C "places" ∧ fs.length < 1000 ∧ R (upd H a (.ins C dx (putF "places" (.int z) fs))) := wb_gen (B' := { B with places := z }) T T.nB_places h rfl rfl q
theorem wb_price (T : Tx K mg) (h : BookAt K H b d B) {z : Int} {R : Hp → Prop} (q : ∀ H', BookAt K H' b d { B with last := some z } → SameBut b H H' → R H') :
    ∃ a C dx fs, V.ref b = .ref a ∧ H a = some (.ins C dx fs) ∧ Cls K C ∧ NoAttr K C "price" ∧ fs.length < 1000 ∧ R (upd H a (.ins C dx (putF "price" (.int z) fs))) := wb_gen (B' := { B with last := some z }) T T.nB_price h rfl rfl q
theorem wb_traded (T : Tx K mg) (h : BookAt K H b d B) {z : Int} {R : Hp → Prop} (q : ∀ H', BookAt K H' b d { B with traded := z } → SameBut b H H' → R H') :
    ∃ a C dx fs, V.ref b = .ref a ∧ H a = some (.ins C dx fs) ∧ Cls K C ∧ NoAttr K C "traded" ∧ fs.length < 1000 ∧ R (upd H a (.ins C dx (putF "traded" (.int z) fs))) := wb_gen (B' := { B with traded := z }) T T.nB_traded h rfl rfl q
theorem wb_calling (T : Tx K mg) (h : BookAt K H b d B) {z : Bool} {R : Hp → Prop} (q : ∀ H', BookAt K H' b d { B with calling := z } → SameBut b H H' → R H') :
    ∃ a C dx fs, V.ref b = .ref a ∧ H a = some (.ins C dx fs) ∧ Cls K C ∧ NoAttr K C "calling" ∧ fs.length < 1000 ∧ R (upd H a (.ins C dx (putF "calling" (.bl z) fs))) := wb_gen (B' := { B with calling := z }) T T.nB_calling h rfl rfl q
end

/-! ### the dict of orders, looked into -/
theorem val_entry {os : List Ord} (hn : (os.map (·.num)).Nodup) {o : Ord} (ho : o ∈ os) : valV (os.map entry) (Sum.inl o.num) = some (.ref o.ad) := by
  induction os with
  | nil => cases ho
  | cons a r ih =>
    rw [List.map_cons]
    rw [List.map_cons, List.nodup_cons] at hn
    by_cases e : a.num = o.num
    · have : o = a := by
        rcases List.mem_cons.mp ho with h | h
        · exact h
        · exact absurd (List.mem_map.mpr ⟨o, h, e.symm⟩) hn.1
      subst this
      exact valV_pos (p := entry o) rfl
    · rw [valV_neg (p := entry a) (fun z => e (Sum.inl.inj z))]
      rcases List.mem_cons.mp ho with h | h
      · exact absurd (congrArg Ord.num h).symm e
      · exact ih hn.2 h
theorem val_none {os : List Ord} {n : Int} (h : findO os n = none) : valV (os.map entry) (Sum.inl n) = none := by
  induction os with
  | nil => rfl
  | cons a r ih =>
    unfold findO at h
    rw [List.find?_cons] at h
    by_cases e : a.num = n
    · rw [decide_eq_true e] at h
      cases h
    · rw [decide_eq_false e] at h
      rw [List.map_cons, valV_neg (p := entry a) (fun z => e (Sum.inl.inj z))]
      exact ih h
theorem find_some {os : List Ord} {n : Int} {o : Ord} (h : findO os n = some o) : o ∈ os ∧ o.num = n := by
  unfold findO at h
  exact ⟨List.mem_of_find?_eq_some h, by simpa using List.find?_some h⟩
theorem drop_entry (os : List Ord) (n : Int) : dropK (os.map entry) (Sum.inl n) = (dropO os n).map entry := by
  unfold dropK dropO
  induction os with
  | nil => rfl
  | cons a r ih =>
    rw [List.map_cons, List.filter_cons, List.filter_cons, ih]
    by_cases e : a.num = n
    · simp [entry, e]
    · have : ¬ (Sum.inl a.num : Key) = Sum.inl n := fun z => e (Sum.inl.inj z)
      simp [entry, e, this]
end FB

set_option maxRecDepth 100000
set_option maxHeartbeats 4000000
/-! The walks of fairbook/orders.py. -/
namespace FB
open PySem PySem.Spec PyProof.Rows L2
section
variable {P : Program} {w : World} {K : PySem.W.Frag} {mg : Str → Option Value} {base : Heap}

/-! ### Order -/
def spOInit (K : PySem.W.Frag) : Sp := fun vs H Q _ => ∃ (p dx : Addr) (n ow : Int) (buy : Bool) (price : Option Int) (many : Int) (shows : Option Int),
  vs = [.ref p, .int n, .int ow, .str (sideStr buy), optV price, .int many, optV shows] ∧ H p = some (.ins (CO K) dx []) ∧
  ∀ H', OrdAt K H' { ad := p, num := n, own := ow, buy := buy, price := price, rest := many, shows := shows, part := 0, place := 0 } → SameBut p H H' → Q .non H'
theorem scOInit : FnScope ["self", "number", "owner", "side", "price", "left", "shows"] ["self", "number", "owner", "side", "price", "left", "shows"] (defScope s_O_init) := ⟨rfl, rfl, rfl, by decide +kernel, rfl, by decide +kernel, by decide +kernel⟩
theorem w_O_init (T : Tx K mg) : Cn P w K mg base CX0 1 "Order" ["self", "number", "owner", "side", "price", "left", "shows"] (spOInit K) := by
  refine ⟨ok0 T.f_O_init scOInit (fun _ _ _ _ _ _ us hl => match us, hl with | [_, _, _, _, _, _, _], _ => rfl) (fun vs H Q E h => ?_) (fun cdv A outer s H vs Q E hr h => ?_), T.mkO, T.g_Order⟩
  · obtain ⟨p, dx, n, ow, buy, price, many, shows, rfl, _⟩ := h
    rfl
  · obtain ⟨p, dx, n, ow, buy, price, many, shows, rfl, hp, k⟩ := h
    refine ⟨_, pss_cons (ps_fld (pv 0) (pv 1) rfl) (pss_cons (ps_fld (pv 0) (pv 2) rfl) (pss_cons (ps_fld (pv 0) (pv 3) rfl) (pss_cons (ps_fld (pv 0) (pv 4) rfl)
      (pss_cons (ps_fld (pv 0) (pv 5) rfl) (pss_cons (ps_fld (pv 0) (pv 6) rfl) (pss_cons (ps_fld (pv 0) pe_int rfl) (pss_one (ps_fld (pv 0) pe_int rfl)))))))), ?_⟩
    refine ⟨_, rfl, _, rfl, p, _, dx, _, rfl, hp, T.clO, T.nO_number, by show 0 < 1000; decide, ?_⟩
    refine ⟨_, rfl, _, rfl, p, _, dx, _, rfl, upd_same, T.clO, T.nO_owner, by show 1 < 1000; decide, ?_⟩
    refine ⟨_, rfl, _, rfl, p, _, dx, _, rfl, upd_same, T.clO, T.nO_side, by show 2 < 1000; decide, ?_⟩
    refine ⟨_, rfl, _, rfl, p, _, dx, _, rfl, upd_same, T.clO, T.nO_price, by show 3 < 1000; decide, ?_⟩
    refine ⟨_, rfl, _, rfl, p, _, dx, _, rfl, upd_same, T.clO, T.nO_rest, by show 4 < 1000; decide, ?_⟩
    refine ⟨_, rfl, _, rfl, p, _, dx, _, rfl, upd_same, T.clO, T.nO_shows, by show 5 < 1000; decide, ?_⟩
    refine ⟨_, rfl, p, _, dx, _, rfl, upd_same, T.clO, T.nO_part, by show 6 < 1000; decide, ?_⟩
    refine ⟨_, rfl, p, _, dx, _, rfl, upd_same, T.clO, T.nO_place, by show 7 < 1000; decide, ?_⟩
    refine k _ ⟨dx, upd_same⟩ fun b u hb e => ?_
    rw [upd_ne hb, upd_ne hb, upd_ne hb, upd_ne hb, upd_ne hb, upd_ne hb, upd_ne hb, upd_ne hb]
    exact e

def spShow (K : PySem.W.Frag) : Sp := fun vs H Q _ => ∃ o : Ord, vs = [.ref o.ad] ∧ OrdAt K H o ∧ ∀ H', OrdAt K H' o.show → SameBut o.ad H H' → Q .non H'
theorem scShow : FnScope ["self"] ["self"] (defScope s_O_show) := ⟨rfl, rfl, rfl, by decide +kernel, rfl, by decide +kernel, by decide +kernel⟩
theorem w_show (T : Tx K mg) : Mt P w K mg base CX0 1 "Order" "show" ["self"] (spShow K) := by
  refine ⟨ok0 T.f_O_show scShow (fun _ _ _ _ _ _ us hl => match us, hl with | [_], _ => rfl) (fun vs H Q E h => ?_) (fun cdv A outer s H vs Q E hr h => ?_), T.clO, T.m_O_show⟩
  · obtain ⟨o, rfl, _⟩ := h
    rfl
  · obtain ⟨o, rfl, ho, k⟩ := h
    refine ⟨_, pss_cons (ps_fld (pv 0) (pe_fld (pv 0) rfl) rfl) (pss_one (ps_if (pt_cmp (pc_notN (pe_fld (pv 0) rfl)))
      (pss_one (ps_fld (pv 0) (pe_callB (call_min2 rfl) (by rfl) T.z_min boot_min (pa_cons (pe_fld (pv 0) rfl) (pa_cons (pe_fld (pv 0) rfl) pa_nil))) rfl)) pss_nil)), ?_⟩
    refine ⟨_, rfl, ro_rest T ho ⟨_, rfl, wo_part T ho fun H1 h1 s1 => ⟨_, rfl, ro_shows T h1 ⟨_, rfl, ?_⟩⟩⟩⟩
    cases e : o.shows with
    | none =>
      refine iteF (k H1 ?_ s1)
      have : o.show = { o with part := o.rest } := by
        unfold Ord.show Ord.shown
        rw [e]
      rw [this]
      exact h1
    | some z =>
      refine iteT ⟨_, rfl, ro_shows T h1 ⟨_, rfl, ro_rest T h1 ⟨z, o.rest, by rw [show ({ o with part := o.rest } : Ord).shows = some z from e]; rfl, ⟨_, rfl, wo_part T h1 fun H2 h2 s2 => k H2 ?_ fun b u hb x => s2 b u hb (s1 b u hb x)⟩⟩⟩⟩
      have : o.show = { o with part := if o.rest < z then o.rest else z } := by
        unfold Ord.show Ord.shown
        rw [e]
        rfl
      rw [this]
      exact h2

def spSuits (K : PySem.W.Frag) : Sp := fun vs H Q _ => ∃ (o : Ord) (p : Int), vs = [.ref o.ad, .int p] ∧ OrdAt K H o ∧ Q (.bl (o.suits p)) H
theorem scSuits : FnScope ["self", "price"] ["self", "price"] (defScope s_O_suits) := ⟨rfl, rfl, rfl, by decide +kernel, rfl, by decide +kernel, by decide +kernel⟩
theorem side_buy (b : Bool) : decide (V.str (sideStr b) = V.str "buy") = b := by cases b <;> decide +kernel
theorem w_suits (T : Tx K mg) : Mt P w K mg base CX0 1 "Order" "suits" ["self", "price"] (spSuits K) := by
  refine ⟨ok0 T.f_O_suits scSuits (fun _ _ _ _ _ _ us hl => match us, hl with | [_, _], _ => rfl) (fun vs H Q E h => ?_) (fun cdv A outer s H vs Q E hr h => ?_), T.clO, T.m_O_suits⟩
  · obtain ⟨o, p, rfl, _⟩ := h
    rfl
  · obtain ⟨o, p, rfl, ho, k⟩ := h
    refine ⟨_, pss_cons (ps_if (pt_cmp (pc_isN (pe_fld (pv 0) rfl))) (pss_one (ps_ret pe_bl)) pss_nil)
      (pss_cons (ps_if (pt_cmpR op_eq (pe_fld (pv 0) rfl) (pe_gs T.k_BUY (by rfl)) (nomark _)) (pss_one (ps_ret (pe_cmpR op_le (pv 1) (pe_fld (pv 0) rfl) (nomark _)))) pss_nil)
      (pss_one (ps_ret (pe_cmpR op_ge (pv 1) (pe_fld (pv 0) rfl) (nomark _))))), ?_⟩
    refine ⟨_, rfl, ro_price T ho ⟨_, rfl, ?_⟩⟩
    unfold Ord.suits at k
    cases e : o.price with
    | none =>
      rw [e] at k
      exact iteT k
    | some q =>
      rw [e] at k
      refine iteF ⟨_, rfl, ro_side T ho ⟨rfl, _, rfl, ?_⟩⟩
      rw [side_buy]
      cases eb : o.buy with
      | true =>
        rw [eb] at k
        exact iteT ⟨_, rfl, _, rfl, ro_price T ho ⟨p, q, rfl, by rw [e]; rfl, k⟩⟩
      | false =>
        rw [eb] at k
        exact iteF ⟨_, rfl, _, rfl, ro_price T ho ⟨p, q, rfl, by rw [e]; rfl, k⟩⟩

def spRank (K : PySem.W.Frag) : Sp := fun vs H Q _ => ∃ o : Ord, vs = [.ref o.ad] ∧ OrdAt K H o ∧ o.price = some o.pr ∧ ∀ t, H t = none → Q (.ref t) (upd H t (.tup [.int o.k1, .int o.place]))
theorem scRank : FnScope ["self"] ["self"] (defScope s_O_rank) := ⟨rfl, rfl, rfl, by decide +kernel, rfl, by decide +kernel, by decide +kernel⟩
theorem w_rank (T : Tx K mg) : Mt P w K mg base CX0 1 "Order" "rank" ["self"] (spRank K) := by
  refine ⟨ok0 T.f_O_rank scRank (fun _ _ _ _ _ _ us hl => match us, hl with | [_], _ => rfl) (fun vs H Q E h => ?_) (fun cdv A outer s H vs Q E hr h => ?_), T.clO, T.m_O_rank⟩
  · obtain ⟨o, rfl, _⟩ := h
    rfl
  · obtain ⟨o, rfl, ho, ep, k⟩ := h
    refine ⟨_, pss_cons (ps_if (pt_cmpR op_eq (pe_fld (pv 0) rfl) (pe_gs T.k_BUY (by rfl)) (nomark _)) (pss_one (ps_ret (pe_tup (pa_cons (pe_un un_neg (pe_fld (pv 0) rfl)) (pa_cons (pe_fld (pv 0) rfl) pa_nil))))) pss_nil)
      (pss_one (ps_ret (pe_tup (pa_cons (pe_fld (pv 0) rfl) (pa_cons (pe_fld (pv 0) rfl) pa_nil))))), ?_⟩
    refine ⟨_, rfl, ro_side T ho ⟨rfl, _, rfl, ?_⟩⟩
    rw [side_buy]
    unfold Ord.k1 at k
    cases eb : o.buy with
    | true =>
      rw [eb] at k
      exact iteT ⟨_, rfl, ro_price T ho ⟨o.pr, by rw [ep]; rfl, _, rfl, ro_place T ho ⟨by show 2 ≤ sizeLine; decide, k⟩⟩⟩
    | false =>
      rw [eb] at k
      refine iteF ⟨_, rfl, ro_price T ho ⟨_, rfl, ro_place T ho ⟨by show 2 ≤ sizeLine; decide, ?_⟩⟩⟩
      rw [ep]
      exact k

/-! ### the module's defs -/
def spOther : Sp := fun vs H Q _ => ∃ b : Bool, vs = [.str (sideStr b)] ∧ Q (.str (sideStr (!b))) H
theorem scOther : FnScope ["side"] ["side"] (defScope s_other_side) := ⟨rfl, rfl, rfl, by decide +kernel, rfl, by decide +kernel, by decide +kernel⟩
theorem w_other (T : Tx K mg) : Fn P w K mg base CX0 1 "other_side" ["side"] spOther := by
  refine ⟨ok0 T.f_other_side scOther (fun _ _ _ _ _ _ us hl => match us, hl with | [_], _ => rfl) (fun vs H Q E h => ?_) (fun cdv A outer s H vs Q E hr h => ?_), T.g_other_side, ?_⟩
  · obtain ⟨b, rfl, _⟩ := h
    rfl
  · obtain ⟨b, rfl, k⟩ := h
    refine ⟨_, pss_cons (ps_if (pt_cmpR op_eq (pv 0) (pe_gs T.k_BUY (by rfl)) (nomark _)) (pss_one (ps_ret (pe_gs T.k_SELL (by rfl)))) pss_nil)
      (pss_one (ps_ret (pe_gs T.k_BUY (by rfl)))), ?_⟩
    refine ⟨_, rfl, rfl, _, rfl, ?_⟩
    rw [side_buy]
    cases b with
    | true => exact iteT k
    | false => exact iteF k
  · obtain ⟨fd, F⟩ := T.f_other_side
    exact F.kp

def spCount : Sp := fun vs H Q _ => ∃ n : Int, vs = [.int n] ∧ Q (.bl (isCount n)) H
theorem scCount : FnScope ["number"] ["number"] (defScope s_is_count) := ⟨rfl, rfl, rfl, by decide +kernel, rfl, by decide +kernel, by decide +kernel⟩
theorem w_count (T : Tx K mg) : Fn P w K mg base CX0 1 "is_count" ["number"] spCount := by
  refine ⟨ok0 T.f_is_count scCount (fun _ _ _ _ _ _ us hl => match us, hl with | [_], _ => rfl) (fun vs H Q E h => ?_) (fun cdv A outer s H vs Q E hr h => ?_), T.g_is_count, ?_⟩
  · obtain ⟨b, rfl, _⟩ := h
    rfl
  · obtain ⟨n, rfl, k⟩ := h
    refine ⟨_, pss_one (ps_ret (pe_chain op_le op_le pe_int (pv 0) (pe_gi T.k_MOST_COUNT (by rfl)))), ?_⟩
    refine ⟨_, rfl, _, _, rfl, rfl, _, rfl, ?_⟩
    unfold isCount at k
    by_cases h : (1 : Int) ≤ n
    · rw [decide_eq_true h] at k ⊢
      exact iteT ⟨_, _, rfl, rfl, k⟩
    · rw [decide_eq_false h] at k ⊢
      exact iteF k
  · obtain ⟨fd, F⟩ := T.f_is_count
    exact F.kp

theorem eqS (a b : Str) : (a == b) = decide (b = a) := by
  by_cases h : a = b
  · subst h; simp
  · rw [decide_eq_false (fun z => h z.symm)]
    exact beq_eq_false_iff_ne.mpr h
theorem inV_side (z : Str) : inV (.str z) [.str "buy", .str "sell"] = goodSide z := by
  show (((("buy" : Str) == z) || ((("sell" : Str) == z) || false))) = _
  rw [eqS, eqS, Bool.or_false]
  rfl
theorem inV_way (z : Str) : inV (.str z) [.str "rest", .str "now", .str "whole"] = goodWay z := by
  show (((("rest" : Str) == z) || ((("now" : Str) == z) || ((("whole" : Str) == z) || false)))) = _
  rw [eqS, eqS, eqS, Bool.or_false]
  rfl
def priceOk (price : Option Int) (way : Str) : Bool := match price with
  | none => !decide (way = ("rest" : Str))
  | some p => decide (1 ≤ p) && decide (p ≤ 1000000000)
def showsOk (shows : Option Int) (many : Int) (way : Str) : Bool := match shows with
  | none => true
  | some s => decide (way = ("rest" : Str)) && (decide (1 ≤ s) && decide (s ≤ many))
theorem goodO_eq (side : Str) (price : Option Int) (many : Int) (shows : Option Int) (way : Str) : goodO side price many shows way = (goodSide side && goodWay way && isCount many && priceOk price way && showsOk shows many way) := by
  unfold goodO priceOk showsOk
  cases price <;> cases shows <;> rfl
def spLook (K : PySem.W.Frag) : Sp := fun vs H Q E => ∃ (side : Str) (price : Option Int) (many : Int) (shows : Option Int) (way : Str), vs = [.str side, optV price, .int many, optV shows, .str way] ∧
  (goodO side price many shows way = true → ∀ H', L2.Same H H' → Q .non H') ∧ (goodO side price many shows way = false → ∀ H', L2.Same H H' → E (.ref (He.ga K "BadOrder")) none H')
theorem scLook : FnScope ["side", "price", "many", "shows", "way"] ["side", "price", "many", "shows", "way"] (defScope s_look_order) := ⟨rfl, rfl, rfl, by decide +kernel, rfl, by decide +kernel, by decide +kernel⟩
theorem dec_str (a b : Str) : decide (V.str a = V.str b) = decide (a = b) := by
  by_cases h : a = b
  · subst h; simp
  · rw [decide_eq_false h]
    exact decide_eq_false fun z => h (V.str.inj z)
theorem optV_non (p : Option Int) : decide (optV p = V.non) = p.isNone := by cases p <;> simp [optV]
theorem w_look (T : Tx K mg) : Fn P w K mg base (L2.CX P w) 2 "look_order" ["side", "price", "many", "shows", "way"] (spLook K) := by
  refine ⟨okX T.f_look_order scLook (fun _ _ _ _ _ _ us hl => match us, hl with | [_, _, _, _, _], _ => rfl) (fun vs H Q E h => ?_) (fun cdv A outer s H vs Q E hr h => ?_), T.g_look_order, ?_⟩
  · obtain ⟨side, price, many, shows, way, rfl, _⟩ := h
    rfl
  · obtain ⟨side, price, many, shows, way, rfl, k1, k2⟩ := h
    have GC : Fn P w K mg base CX0 1 "is_count" ["number"] spCount := w_count T
    obtain ⟨xP, kP, bP, tP⟩ := T.e_BadOrder
    refine ⟨_, pss_cons (ps_if (PW.pt (pw_or (pt_cmpR op_notIn_seq (pv 0) (pe_tup (pa_cons (pe_gs T.k_BUY (by rfl)) (pa_cons (pe_gs T.k_SELL (by rfl)) pa_nil))) (by rfl))
        (pw_or (pt_cmpR op_notIn_seq (pv 4) (pe_glob (v := .ref (He.ga K "WAYS")) (by rfl) T.g_WAYS rfl) (by rfl)) (pw_or1 (pt_not (pt_val (pe_fn GC hr rfl pass0 (pa_cons (pv 2) pa_nil))))))))
        (pss_one (ps_raise rfl (takes_of rfl rfl rfl rfl) (pmk_own PySem.F.excBase_ValueError xP T.g_BadOrder kP (raises_own bP tP) rfl))) pss_nil)
      (pss_cons (ps_if (PW.pt (pw_and (pt_cmp (pc_notN (pv 1))) (pw_and1 (pt_not (pt_chain op_le op_le pe_int (pv 1) (pe_gi T.k_MOST_PRICE (by rfl)))))))
        (pss_one (ps_raise rfl (takes_of rfl rfl rfl rfl) (pmk_own PySem.F.excBase_ValueError xP T.g_BadOrder kP (raises_own bP tP) rfl))) pss_nil)
      (pss_cons (ps_if (PW.pt (pw_and (pt_cmp (pc_isN (pv 1))) (pw_and1 (pt_cmpR op_eq (pv 4) (pe_gs T.k_REST (by rfl)) (nomark _)))))
        (pss_one (ps_raise rfl (takes_of rfl rfl rfl rfl) (pmk_own PySem.F.excBase_ValueError xP T.g_BadOrder kP (raises_own bP tP) rfl))) pss_nil)
      (pss_one (ps_if (PW.pt (pw_and (pt_cmp (pc_notN (pv 3))) (pw_and1 (PW.pt (pw_or (pt_cmpR op_ne (pv 4) (pe_gs T.k_REST (by rfl)) (nomark _)) (pw_or1 (pt_not (pt_chain op_le op_le pe_int (pv 3) (pv 2)))))))))
        (pss_one (ps_raise rfl (takes_of rfl rfl rfl rfl) (pmk_own PySem.F.excBase_ValueError xP T.g_BadOrder kP (raises_own bP tP) rfl))) pss_nil)))), ?_⟩
    refine ⟨_, rfl, by show 2 ≤ sizeLine; decide, fun t ht => ⟨t, _, rfl, .inr (SqT.of upd_same), rfl, rfl, _, rfl, ?_⟩⟩
    have sm : L2.Same H (upd H t (.tup [.str "buy", .str "sell"])) := same_new ht
    rw [inV_side]
    cases hs : goodSide side with
    | false => exact iteT (iteT (k2 (by simp [goodO, hs]) _ sm))
    | true =>
      refine iteF ⟨_, rfl, _, _, rfl, .inr (T.t_WAYS _), rfl, rfl, _, rfl, ?_⟩
      rw [inV_way]
      cases hw : goodWay way with
      | false => exact iteT (iteT (k2 (by simp [goodO, hw]) _ sm))
      | true =>
        refine iteF ⟨_, rfl, many, rfl, _, rfl, ?_⟩
        cases hc : isCount many with
        | false => exact iteT (k2 (by simp [goodO, hc]) _ sm)
        | true =>
          refine iteF ⟨_, rfl, _, rfl, ?_⟩
          rw [optV_non]
          have hgood : ∀ b c, priceOk price way = b → showsOk shows many way = c → goodO side price many shows way = (b && c) := fun b c e1 e2 => by
            rw [goodO_eq, hs, hw, hc, e1, e2]
            rfl
          have pgood : ∃ b, priceOk price way = b := ⟨_, rfl⟩
          obtain ⟨pb, hpb⟩ := pgood
          cases pb with
          | false =>
            have kb : ∀ H', L2.Same H H' → E (.ref (He.ga K "BadOrder")) none H' := k2 (by rw [hgood false _ hpb rfl]; rfl)
            cases price with
            | none =>
              have hr : decide (way = ("rest" : Str)) = true := by simpa [priceOk] using hpb
              refine iteF (iteF ⟨_, rfl, _, rfl, iteT ⟨_, rfl, rfl, _, rfl, ?_⟩⟩)
              rw [dec_str, hr]
              exact iteT (kb _ sm)
            | some p =>
              have hr : (decide (1 ≤ p) && decide (p ≤ 1000000000)) = false := hpb
              refine iteT ⟨_, rfl, _, _, rfl, rfl, _, rfl, ?_⟩
              cases h1 : decide ((1 : Int) ≤ p) with
              | false => exact iteF ⟨_, rfl, iteT (kb _ sm)⟩
              | true =>
                rw [h1] at hr
                refine iteT ⟨_, _, rfl, rfl, _, rfl, ?_⟩
                rw [show decide (p ≤ 1000000000) = false from hr]
                exact iteT (kb _ sm)
          | true =>
            have k4 : showsOk shows many way = true → ∀ H', L2.Same H H' → Q .non H' := fun e => k1 (by rw [hgood true true hpb e]; rfl)
            have k5 : showsOk shows many way = false → ∀ H', L2.Same H H' → E (.ref (He.ga K "BadOrder")) none H' := fun e => k2 (by rw [hgood true false hpb e]; rfl)
            cases price with
            | none =>
              have hr : decide (way = ("rest" : Str)) = false := by simpa [priceOk] using hpb
              refine iteF (iteF ⟨_, rfl, _, rfl, iteT ⟨_, rfl, rfl, _, rfl, ?_⟩⟩)
              rw [dec_str, hr]
              refine iteF ⟨_, rfl, _, rfl, ?_⟩
              rw [optV_non]
              cases shows with
              | none => exact iteF (iteF (k4 rfl _ sm))
              | some z =>
                refine iteT ⟨_, rfl, rfl, _, rfl, ?_⟩
                rw [dec_str, hr]
                exact iteT (iteT (k5 (by simp [showsOk, hr]) _ sm))
            | some p =>
              have hr : (decide (1 ≤ p) && decide (p ≤ 1000000000)) = true := hpb
              obtain ⟨h1, h2⟩ := Bool.and_eq_true_iff.mp hr
              refine iteT ⟨_, rfl, _, _, rfl, rfl, _, rfl, ?_⟩
              rw [h1]
              refine iteT ⟨_, _, rfl, rfl, _, rfl, ?_⟩
              rw [h2]
              refine iteF ⟨_, rfl, _, rfl, iteF (iteF ⟨_, rfl, _, rfl, ?_⟩)⟩
              rw [optV_non]
              cases shows with
              | none => exact iteF (iteF (k4 rfl _ sm))
              | some z =>
                refine iteT ⟨_, rfl, rfl, _, rfl, ?_⟩
                rw [dec_str]
                cases hwr : decide (way = ("rest" : Str)) with
                | false => exact iteT (iteT (k5 (by simp [showsOk, hwr]) _ sm))
                | true =>
                  refine iteF ⟨_, rfl, _, _, rfl, rfl, _, rfl, ?_⟩
                  cases hz : decide ((1 : Int) ≤ z) with
                  | false => exact iteF ⟨_, rfl, iteT (k5 (by simp [showsOk, hz]) _ sm)⟩
                  | true =>
                    refine iteT ⟨_, rfl, _, _, rfl, rfl, _, rfl, ?_⟩
                    cases hz2 : decide (z ≤ many) with
                    | false => exact iteT (k5 (by simp [showsOk, hz2]) _ sm)
                    | true => exact iteF (k4 (by simp [showsOk, hwr, hz, hz2]) _ sm)
  · obtain ⟨fd, F⟩ := T.f_look_order
    exact F.kp
end
end FB

set_option maxRecDepth 100000
set_option maxHeartbeats 4000000
/-! The walks of fairbook/books.py. -/
namespace FB
open PySem PySem.Spec PyProof.Rows L2

/-! ### the sort -/
def encO (o : Ord) : PyData := .tuple [.int o.k1, .int o.place, .int o.num]
theorem leO_data : PySem.W.dataLe false encO = leO := by
  funext a b
  show (!PySem.W.dataLt (encO b) (encO a)) = _
  unfold encO
  rw [dataLt_iii]
  rfl
theorem enc_alike (l : List Ord) : PySem.W.AllAlike (l.map encO) := PySem.W.AllAlike.of fun b b' => by
  unfold encO
  simp [PySem.W.alike, PySem.W.alikeAll]
theorem encO_depth (o : Ord) : (encO o).depth ≤ 60 := by
  unfold encO
  simp [PyData.depth, PyData.depthAll]
theorem zip_fst {α β : Type} : ∀ {l : List α} {m : List β}, m.length = l.length → (l.zip m).map Prod.fst = l
  | [], [], _ => rfl
  | a :: l, b :: m, h => by
    rw [List.zip_cons_cons, List.map_cons, zip_fst (by simpa using h)]
theorem zip_snd {α β : Type} : ∀ {l : List α} {m : List β}, m.length = l.length → (l.zip m).map Prod.snd = m
  | [], [], _ => rfl
  | a :: l, b :: m, h => by
    rw [List.zip_cons_cons, List.map_cons, zip_snd (by simpa using h)]
theorem paired_zip {α β : Type} {F : α → β → Prop} : ∀ {l : List α} {m : List β}, Paired F l m → ∀ z ∈ l.zip m, F z.1 z.2
  | _, _, .nil, z, h => by cases h
  | _, _, .cons r t, z, h => by
    rw [List.zip_cons_cons] at h
    rcases List.mem_cons.mp h with e | h
    · rw [e]
      exact r
    · exact paired_zip t z h
section
variable {P : Program} {w : World} {K : PySem.W.Frag} {mg : Str → Option Value} {base : Heap}
def emptyB : Bk := { ords := [], many := 0, places := 0, last := none, traded := 0, calling := false }
def spBInit (K : PySem.W.Frag) : Sp := fun vs H Q _ => ∃ (p dx : Addr), vs = [.ref p] ∧ H p = some (.ins (CB K) dx []) ∧ ∀ (d : Addr) (H' : Hp), H d = none → BookAt K H' p d emptyB → SameBut p H H' → Q .non H'
theorem scBInit : FnScope ["self"] ["self"] (defScope s_B_init) := ⟨rfl, rfl, rfl, by decide +kernel, rfl, by decide +kernel, by decide +kernel⟩
theorem w_B_init (T : Tx K mg) : Cn P w K mg base CX0 1 "Book" ["self"] (spBInit K) := by
  refine ⟨ok0 T.f_B_init scBInit (fun _ _ _ _ _ _ us hl => match us, hl with | [_], _ => rfl) (fun vs H Q E h => ?_) (fun cdv A outer s H vs Q E hr h => ?_), T.mkB, T.g_Book⟩
  · obtain ⟨p, dx, rfl, _⟩ := h
    rfl
  · obtain ⟨p, dx, rfl, hp, k⟩ := h
    refine ⟨_, pss_cons (ps_fld (pv 0) pe_dnewK rfl) (pss_cons (ps_fld (pv 0) pe_int rfl) (pss_cons (ps_fld (pv 0) pe_int rfl) (pss_cons (ps_fld (pv 0) pe_non rfl)
      (pss_cons (ps_fld (pv 0) pe_int rfl) (pss_one (ps_fld (pv 0) pe_bl rfl)))))), ?_⟩
    intro d hd
    have npd : p ≠ d := ne_of_none hp hd
    refine ⟨_, rfl, p, _, dx, _, rfl, (by rw [upd_ne npd]; exact hp), T.clB, T.nB_orders, by show 0 < 1000; decide, ?_⟩
    refine ⟨_, rfl, p, _, dx, _, rfl, upd_same, T.clB, T.nB_many, by show 1 < 1000; decide, ?_⟩
    refine ⟨_, rfl, p, _, dx, _, rfl, upd_same, T.clB, T.nB_places, by show 2 < 1000; decide, ?_⟩
    refine ⟨_, rfl, p, _, dx, _, rfl, upd_same, T.clB, T.nB_price, by show 3 < 1000; decide, ?_⟩
    refine ⟨_, rfl, p, _, dx, _, rfl, upd_same, T.clB, T.nB_traded, by show 4 < 1000; decide, ?_⟩
    refine ⟨_, rfl, p, _, dx, _, rfl, upd_same, T.clB, T.nB_calling, by show 5 < 1000; decide, ?_⟩
    refine k d _ hd (BookAt.mk ⟨dx, upd_same⟩ ?_ (fun o ho => by cases ho) List.nodup_nil List.nodup_nil) fun b u hb e => ?_
    · rw [upd_ne npd.symm, upd_ne npd.symm, upd_ne npd.symm, upd_ne npd.symm, upd_ne npd.symm, upd_ne npd.symm, upd_same]
      rfl
    · rw [upd_ne hb, upd_ne hb, upd_ne hb, upd_ne hb, upd_ne hb, upd_ne hb, upd_ne (ne_of_none e hd)]
      exact e
/-- the book, its dict locked -/
structure BookL (K : PySem.W.Frag) (H : Hp) (b d : Addr) (od : Obj) (B : Bk) : Prop where
  bk : ∃ dx, H b = some (.ins (CB K) dx (bkF d B))
  dc : H d = some (.frz od (.dK (B.ords.map entry)))
  os : ∀ o ∈ B.ords, OrdAt K H o
theorem BookL.same {H H' : Hp} {b d : Addr} {od : Obj} {B : Bk} (h : BookL K H b d od B) (s : L2.Same H H') : BookL K H' b d od B :=
  ⟨let ⟨dx, e⟩ := h.bk; ⟨dx, s _ _ e⟩, s _ _ h.dc, fun o ho => (h.os o ho).same s⟩
theorem BookAt.lock {H : Hp} {b d : Addr} {B : Bk} (h : BookAt K H b d B) (od : Obj) : BookL K (upd H d (.frz od (.dK (B.ords.map entry)))) b d od B :=
  ⟨let ⟨dx, e⟩ := h.bk; ⟨dx, by rw [upd_ne h.bd]; exact e⟩, upd_same, fun o ho => (h.os o ho).but sb_upd ((h.os o ho).nd h)⟩
theorem same_unlock {H H' : Hp} {d : Addr} {od : Obj} {u : HO} (hd : H d = some u) (s : L2.Same (upd H d (.frz od u)) H') : L2.Same H (upd H' d u) := fun b x e => by
  by_cases hb : b = d
  · subst hb
    rw [upd_same, ← hd]
    exact e
  · rw [upd_ne hb]
    exact s b x (by rw [upd_ne hb]; exact e)
theorem rl_orders (T : Tx K mg) {H : Hp} {b d : Addr} {od : Obj} {B : Bk} (h : BookL K H b d od B) {Q : V → Prop} (q : Q (.ref d)) : ∃ a C dx fs v, V.ref b = .ref a ∧ H a = some (.ins C dx fs) ∧ Cls K C ∧ NoAttr K C "orders" ∧ fs.lookup ("orders" : Str) = some v ∧ Q v := let ⟨_, e⟩ := h.bk; rf e T.clB T.nB_orders rfl q
theorem getL {H : Hp} {b d : Addr} {od : Obj} {B : Bk} (h : BookL K H b d od B) (hn : (B.ords.map (·.num)).Nodup) {o : Ord} (ho : o ∈ B.ords) : DGet H d (.int o.num) (some (.ref o.ad)) := .inl ⟨_, Sum.inl o.num, .inr ⟨od, h.dc⟩, rfl, (val_entry hn ho).symm⟩
theorem getB {H : Hp} {b d : Addr} {B : Bk} (h : BookAt K H b d B) {o : Ord} (ho : o ∈ B.ords) : DGet H d (.int o.num) (some (.ref o.ad)) := .inl ⟨_, Sum.inl o.num, .inl h.dc, rfl, (val_entry h.ndn ho).symm⟩
/-- the book as it may be read, its dict locked or not -/
structure BookR (K : PySem.W.Frag) (H : Hp) (b d : Addr) (B : Bk) : Prop where
  bk : ∃ dx, H b = some (.ins (CB K) dx (bkF d B))
  dc : Rd H d (.dK (B.ords.map entry))
  os : ∀ o ∈ B.ords, OrdAt K H o
  ndn : (B.ords.map (·.num)).Nodup
theorem BookAt.r {H : Hp} {b d : Addr} {B : Bk} (h : BookAt K H b d B) : BookR K H b d B := ⟨h.bk, .inl h.dc, h.os, h.ndn⟩
theorem BookL.r {H : Hp} {b d : Addr} {od : Obj} {B : Bk} (h : BookL K H b d od B) (n : (B.ords.map (·.num)).Nodup) : BookR K H b d B := ⟨h.bk, .inr ⟨od, h.dc⟩, h.os, n⟩
theorem BookR.same {H H' : Hp} {b d : Addr} {B : Bk} (h : BookR K H b d B) (s : L2.Same H H') : BookR K H' b d B :=
  ⟨let ⟨dx, e⟩ := h.bk; ⟨dx, s _ _ e⟩, h.dc.imp (s _ _) (fun ⟨od, e⟩ => ⟨od, s _ _ e⟩), fun o ho => (h.os o ho).same s, h.ndn⟩
theorem rr_orders (T : Tx K mg) {H : Hp} {b d : Addr} {B : Bk} (h : BookR K H b d B) {Q : V → Prop} (q : Q (.ref d)) : ∃ a C dx fs v, V.ref b = .ref a ∧ H a = some (.ins C dx fs) ∧ Cls K C ∧ NoAttr K C "orders" ∧ fs.lookup ("orders" : Str) = some v ∧ Q v := let ⟨_, e⟩ := h.bk; rf e T.clB T.nB_orders rfl q
theorem getR {H : Hp} {b d : Addr} {B : Bk} (h : BookR K H b d B) {o : Ord} (ho : o ∈ B.ords) : DGet H d (.int o.num) (some (.ref o.ad)) := .inl ⟨_, Sum.inl o.num, h.dc, rfl, (val_entry h.ndn ho).symm⟩
theorem mR {H : Hp} {b d : Addr} {B : Bk} {m : Str} {R : Addr → Prop} (h : BookR K H b d B) (l : (bkF d B).lookup m = none) (q : R b) : ∃ a dx fs, V.ref b = .ref a ∧ H a = some (.ins (CB K) dx fs) ∧ fs.lookup m = none ∧ R a := let ⟨dx, e⟩ := h.bk; ⟨b, dx, _, rfl, e, l, q⟩
/-- orders that rest have a price -/
def Priced (os : List Ord) : Prop := ∀ o ∈ os, o.price = some o.pr
abbrev refO (o : Ord) : V := .ref o.ad
def spRow (K : PySem.W.Frag) : Sp := fun vs H Q _ => ∃ (b d : Addr) (B : Bk) (side : Bool), vs = [.ref b, .str (sideStr side)] ∧ BookR K H b d B ∧ Priced B.ords ∧ B.ords.length ≤ 1000 ∧
  ∀ H' r, L2.Same H H' → H r = none → H' r = some (.lst ((row B.ords side).map refO)) → Q (.ref r) H'
theorem scRow : FnScope ["self", "side", "rows", "number", "row"] ["self", "side"] (defScope s_B_row) := ⟨rfl, rfl, rfl, by decide +kernel, rfl, by decide +kernel, by decide +kernel⟩
theorem side_eq (a b : Bool) : decide (V.str (sideStr a) = V.str (sideStr b)) = (a == b) := by cases a <;> cases b <;> decide +kernel
abbrev ttRow (K : PySem.W.Frag) : TT := tTest (tOp rEq (tFld K (tDGet (tFld K (tVar 0) "orders") (tVar 3)) "side") (tVar 1))
abbrev teRow (K : PySem.W.Frag) : TE := tOp (rCatT K) (tMeth (CO K) "rank" (spRank K) [] E0 (tDGet (tFld K (tVar 0) "orders") (tVar 3)) tNil) (tTup (tCons (tVar 3) tNil))
abbrev te2Row (K : PySem.W.Frag) : TE := tDGet (tFld K (tVar 0) "orders") (tOp (rIxT K) (tVar 4) (tC (.int 2)))
/-- the ranks of a side's orders, the dict locked -/
theorem row_inner (T : Tx K mg) {H : Hp} {b d : Addr} {od : Obj} {B : Bk} {side : Bool} {Q : VK} (hL : BookL K H b d od B) (hn : (B.ords.map (·.num)).Nodup) (hpr : Priced B.ords) (hlen : B.ords.length ≤ 1000)
    (k : ∀ H1 D ys, L2.Same H H1 → H D = none → H1 D = some (.lst ys) → Paired (fun o y => ∃ t, y = .ref t ∧ H1 t = some (.tup [.int o.k1, .int o.place, .int o.num])) (B.ords.filter fun o => o.buy == side) ys → Q (.ref D) H1) :
    tLc (iKeys (tFld K (tVar 0) "orders")) (gName 3) (ttRow K) (teRow K) [3] [some (.ref b), some (.str (sideStr side)), none, none, none] H Q := by
  refine ⟨_, rfl, rl_orders T hL ⟨d, od, rfl, .inl ⟨_, hL.dc, fun D hD => ?_⟩⟩⟩
  refine lc_relK (zs := B.ords) (kf := entry) (p := fun o => o.buy == side) (R := fun o y H => ∃ t, y = .ref t ∧ H t = some (.tup [.int o.k1, .int o.place, .int o.num])) hL.dc (Nat.le_of_lt (small1000 hlen)) hD ?_ ?_ ?_
  · rintro o y H1 H2 xs hx sb ⟨t, rfl, ht⟩
    exact ⟨t, rfl, sb t _ (ne_of ht hx (by intro z; cases z)) ht⟩
  · intro o ho H1 s1 Qy Qn qy qn
    have hL1 := hL.same s1
    refine ⟨rfl, _, rfl, rl_orders T hL1 ⟨_, rfl, d, _, rfl, getL hL1 hn ho, ro_side T (hL1.os o ho) ⟨_, rfl, rfl, _, rfl, ?_⟩⟩⟩
    rw [side_eq]
    cases e : (o.buy == side) with
    | false => exact iteF (qn e H1 (L2.Same.refl _))
    | true =>
      obtain ⟨dx, hx⟩ := hL1.os o ho
      refine iteT ⟨_, rfl, rl_orders T hL1 ⟨_, rfl, d, _, rfl, getL hL1 hn ho, o.ad, dx, _, rfl, hx, rfl, o, rfl, ⟨dx, hx⟩, hpr o ho, fun t ht => ?_⟩⟩
      refine ⟨_, rfl, by show 1 ≤ sizeLine; decide, fun t2 ht2 => ⟨t, t2, _, _, rfl, rfl, SqT.of (by rw [upd_ne (ne_of_none upd_same ht2)]; exact upd_same), SqT.of upd_same, by simp, by show 3 ≤ sizeLine; decide, (fun z => by cases z), fun z p hp => ?_⟩⟩
      exact qy e _ _ (same_upd (same_upd (same_new ht) ht2) hp) ⟨p, rfl, upd_same⟩
  · intro H1 ys s1 hDy hP
    exact k H1 D ys s1 hD hDy hP
/-- sorted, and the orders by them -/
theorem row_outer (T : Tx K mg) {H : Hp} {b d D : Addr} {B : Bk} {side : Bool} {ys : List V} {Q : VK} (hR : BookR K H b d B) (hlen : B.ords.length ≤ 1000) (hD : H D = some (.lst ys))
    (hP : Paired (fun o y => ∃ t, y = .ref t ∧ H t = some (.tup [.int o.k1, .int o.place, .int o.num])) (B.ords.filter fun o => o.buy == side) ys)
    (k : ∀ H' r, L2.Same H H' → H r = none → H' r = some (.lst ((row B.ords side).map refO)) → Q (.ref r) H') :
    rSortedD K [.ref D] H fun x H1 => (tRet (tLc (iList K (tVar 2)) (gName 4) tYes (te2Row K) [4])) { nx := fun _ H' => Q .non H', rt := Q } [some (.ref b), some (.str (sideStr side)), some x, none, none] H1 := by
  have len := paired_len hP
  have tup := paired_zip hP
  refine ⟨D, Ord × V, (B.ords.filter fun o => o.buy == side).zip ys, Prod.snd, fun z => encO z.1, rfl, SqL.of (by rw [zip_snd len]; exact hD), fun z hz => ?_,
    PySem.W.AllAlike.of (fun b b' => by unfold encO; simp [PySem.W.alike, PySem.W.alikeAll]), PySem.W.Sortable.tuples (fun b => ⟨_, _, rfl⟩), fun z _ => encO_depth _, fun p hp => ?_⟩
  · obtain ⟨t, e, ht⟩ := tup z hz
    show Dp K _ z.2 (encO z.1)
    rw [e]
    exact Dp.tup (SqT.of ht) (.cons (.int _) (.cons (.int _) (.cons (.int _) .nil)))
  · refine ⟨_, rfl, p, rfl, ⟨_, SqL.of upd_same⟩, fun D2 hD2 => ?_⟩
    have sm2 := same_new (o := .lst ((((B.ords.filter fun o => o.buy == side).zip ys).mergeSort (PySem.W.dataLe false fun z => encO z.1)).map Prod.snd)) hp
    have hms : (((B.ords.filter fun o => o.buy == side).zip ys).mergeSort (PySem.W.dataLe false fun z => encO z.1)).map Prod.fst = row B.ords side := by
      have e1 := PySem.W.sort_maps (r := PySem.W.dataLe false fun z : Ord × V => encO z.1) (s := leO) Prod.fst (l := (B.ords.filter fun o => o.buy == side).zip ys) (fun a _ b _ => by rw [← leO_data]; rfl)
      rw [zip_fst len] at e1
      exact e1
    refine lc_rel (K := K) (zs := ((B.ords.filter fun o => o.buy == side).zip ys).mergeSort (PySem.W.dataLe false fun z => encO z.1)) (enc := Prod.snd) (p := fun _ => true) (R := fun z y _ => y = .ref z.1.ad) (SqL.of upd_same) ?_ hD2 (fun _ _ _ _ _ _ _ h => h) ?_ ?_
    · rw [List.length_mergeSort, List.length_zip]
      have h1 : (B.ords.filter fun o => o.buy == side).length ≤ B.ords.length := List.length_filter_le _ _
      have h2 := small1000 hlen
      omega
    · intro z hz H3 s3 Qy Qn qy qn
      have hz' := List.mem_mergeSort.mp hz
      obtain ⟨t, e, ht⟩ := tup z hz'
      have ho : z.1 ∈ B.ords := (List.mem_filter.mp (List.of_mem_zip hz').1).1
      have hB3 := (hR.same sm2).same s3
      have ht3 := s3 _ _ (sm2 _ _ ht)
      exact ⟨rfl, iteT (B := Qn H3) ⟨_, rfl, rr_orders T hB3 ⟨_, rfl, t, _, _, _, e, rfl, SqT.of ht3, rfl, d, _, rfl, getR hB3 ho, qy rfl _ H3 (L2.Same.refl _) rfl⟩⟩⟩
    · intro H3 ys3 s3 hD3 hP3
      refine k H3 D2 (sm2.trans s3) (sm2.free hD2) ?_
      rw [hD3, paired_eq hP3, ← hms, List.map_map, List.filter_eq_self.mpr (fun _ _ => rfl)]
      rfl
theorem w_row (T : Tx K mg) : Mt P w K mg base CX0 2 "Book" "row" ["self", "side"] (spRow K) := by
  refine ⟨ok0 T.f_B_row scRow (fun _ _ _ _ _ _ us hl => match us, hl with | [_, _], _ => rfl) (fun vs H Q E h => ?_) (fun cdv A outer s H vs Q E hr h => ?_), T.clB, T.m_B_row⟩
  · obtain ⟨b, d, B, side, rfl, _⟩ := h
    rfl
  · obtain ⟨b, d, B, side, rfl, hB, hpr, hlen, k⟩ := h
    have GR : Mt P w K mg base CX0 1 "Order" "rank" ["self"] (spRank K) := w_rank T
    have hu := hu_of hr
    rcases hB.dc with hd | ⟨od, hd⟩
    · refine ⟨_, pss_cons (ps_set (i := 2) scRow.nd rfl (Or.inl rfl) (pe_callB (cr_sortedD hr) (by rfl) T.z_sorted boot_sorted (pa_cons
          (pe_lock (pe_lc (own := [("number", 3)]) (g := gName 3) (tt := ttRow K) (te := teRow K) rfl scRow.nd (pi_keys (pe_fld (pv 0) rfl)) (blkOk_by (N := ["self", "side", "rows", "number", "row"]) (sc := defScope s_B_row) (by decide +kernel)) (fun _ _ _ _ _ => pg_name (i := 3) scRow.nd rfl (Or.inl rfl))
            (fun _ _ _ _ _ => pts_one (pt_cmpR op_eq (pe_fld (pe_dget hu (pe_fld (pv 0) rfl) (pv 3) (fun _ _ => rfl)) rfl) (pv 1) (nomark _)))
            (fun _ _ _ _ _ => pe_op op_catT (pe_mt0 (pe_dget hu (pe_fld (pv 0) rfl) (pv 3) (fun _ _ => rfl)) GR hr pass0) (pe_tup (pa_cons (pv 3) pa_nil))))) pa_nil)))
        (pss_one (ps_ret (pe_lc (own := [("row", 4)]) (g := gName 4) (tt := tYes) (te := te2Row K) rfl scRow.nd (pi_list (pv 2)) (blkOk_by (N := ["self", "side", "rows", "number", "row"]) (sc := defScope s_B_row) (by decide +kernel)) (fun _ _ _ _ _ => pg_name (i := 4) scRow.nd rfl (Or.inl rfl))
            (fun _ _ _ _ _ => pts_nil) (fun _ _ _ _ _ => pe_dget hu (pe_fld (pv 0) rfl) (pe_ix ix_tup (pv 4) pe_int (fun _ _ => rfl)) (fun _ _ => rfl))))), ?_⟩
      refine ⟨d, _, hd, trivial, fun od => ?_⟩
      have nd : b ≠ d := by
        obtain ⟨dx, e⟩ := hB.bk
        exact ne_of e hd (by intro z; cases z)
      have hL : BookL K (upd H d (.frz od (.dK (B.ords.map entry)))) b d od B :=
        ⟨let ⟨dx, e⟩ := hB.bk; ⟨dx, by rw [upd_ne nd]; exact e⟩, upd_same, fun o ho => (hB.os o ho).but sb_upd (let ⟨_, e⟩ := hB.os o ho; ne_of e hd (by intro z; cases z))⟩
      refine row_inner T hL hB.ndn hpr hlen fun H1 D ys s1 hD hDy hP => ?_
      have hd1 := s1 _ _ hL.dc
      have nDd : D ≠ d := (ne_of_none hL.dc hD).symm
      have sm1 : L2.Same H (upd H1 d (.dK (B.ords.map entry))) := same_unlock hd s1
      refine ⟨hd1, row_outer T (hB.same sm1) hlen (by rw [upd_ne nDd]; exact hDy) (paired_map (fun o y ⟨t, e, ht⟩ => ⟨t, e, by rw [upd_ne (ne_of ht hd1 (by intro z; cases z))]; exact ht⟩) hP) fun H' r s' hr' er => k H' r (sm1.trans s') (sm1.free hr') er⟩
    · refine ⟨_, pss_cons (ps_set (i := 2) scRow.nd rfl (Or.inl rfl) (pe_callB (cr_sortedD hr) (by rfl) T.z_sorted boot_sorted (pa_cons
          (pe_lc (own := [("number", 3)]) (g := gName 3) (tt := ttRow K) (te := teRow K) rfl scRow.nd (pi_keys (pe_fld (pv 0) rfl)) (blkOk_by (N := ["self", "side", "rows", "number", "row"]) (sc := defScope s_B_row) (by decide +kernel)) (fun _ _ _ _ _ => pg_name (i := 3) scRow.nd rfl (Or.inl rfl))
            (fun _ _ _ _ _ => pts_one (pt_cmpR op_eq (pe_fld (pe_dget hu (pe_fld (pv 0) rfl) (pv 3) (fun _ _ => rfl)) rfl) (pv 1) (nomark _)))
            (fun _ _ _ _ _ => pe_op op_catT (pe_mt0 (pe_dget hu (pe_fld (pv 0) rfl) (pv 3) (fun _ _ => rfl)) GR hr pass0) (pe_tup (pa_cons (pv 3) pa_nil)))) pa_nil)))
        (pss_one (ps_ret (pe_lc (own := [("row", 4)]) (g := gName 4) (tt := tYes) (te := te2Row K) rfl scRow.nd (pi_list (pv 2)) (blkOk_by (N := ["self", "side", "rows", "number", "row"]) (sc := defScope s_B_row) (by decide +kernel)) (fun _ _ _ _ _ => pg_name (i := 4) scRow.nd rfl (Or.inl rfl))
            (fun _ _ _ _ _ => pts_nil) (fun _ _ _ _ _ => pe_dget hu (pe_fld (pv 0) rfl) (pe_ix ix_tup (pv 4) pe_int (fun _ _ => rfl)) (fun _ _ => rfl))))), ?_⟩
      have hL : BookL K H b d od B := ⟨hB.bk, hd, hB.os⟩
      unfold tSeq tAsg tCB tCons
      refine row_inner T hL hB.ndn hpr hlen fun H1 D ys s1 hD hDy hP => ?_
      exact row_outer T (hB.same s1) hlen hDy hP fun H' r s' hr' er => k H' r (s1.trans s') (s1.free hr') er
theorem mB {H : Hp} {b d : Addr} {B : Bk} {m : Str} {R : Addr → Prop} (h : BookAt K H b d B) (l : (bkF d B).lookup m = none) (q : R b) : ∃ a dx fs, V.ref b = .ref a ∧ H a = some (.ins (CB K) dx fs) ∧ fs.lookup m = none ∧ R a := let ⟨dx, e⟩ := h.bk; ⟨b, dx, _, rfl, e, l, q⟩
theorem mO {H : Hp} {o : Ord} {m : Str} {R : Addr → Prop} (h : OrdAt K H o) (l : (ordF o).lookup m = none) (q : R o.ad) : ∃ a dx fs, V.ref o.ad = .ref a ∧ H a = some (.ins (CO K) dx fs) ∧ fs.lookup m = none ∧ R a := let ⟨dx, e⟩ := h; ⟨o.ad, dx, _, rfl, e, l, q⟩
def spResting (K : PySem.W.Frag) : Sp := fun vs H Q _ => ∃ (b d : Addr) (B : Bk) (side : Bool), vs = [.ref b, .str (sideStr side)] ∧ BookAt K H b d B ∧ Priced B.ords ∧ B.ords.length ≤ 1000 ∧
  ∀ H' r, L2.Same H H' → H r = none → H' r = some (.lst ((resting B.ords side).map V.int)) → Q (.ref r) H'
theorem scResting : FnScope ["self", "side", "order"] ["self", "side"] (defScope s_B_resting) := ⟨rfl, rfl, rfl, by decide +kernel, rfl, by decide +kernel, by decide +kernel⟩
theorem w_resting (T : Tx K mg) : Mt P w K mg base CX0 3 "Book" "resting" ["self", "side"] (spResting K) := by
  refine ⟨ok0 T.f_B_resting scResting (fun _ _ _ _ _ _ us hl => match us, hl with | [_, _], _ => rfl) (fun vs H Q E h => ?_) (fun cdv A outer s H vs Q E hr h => ?_), T.clB, T.m_B_resting⟩
  · obtain ⟨b, d, B, side, rfl, _⟩ := h
    rfl
  · obtain ⟨b, d, B, side, rfl, hB, hpr, hlen, k⟩ := h
    have GR : Mt P w K mg base CX0 2 "Book" "row" ["self", "side"] (spRow K) := w_row T
    refine ⟨_, pss_one (ps_ret (pe_lc (own := [("order", 2)]) (g := gName 2) (tt := tYes) (te := tFld K (tVar 2) "number") rfl scResting.nd (pi_list (pe_mt (pv 0) GR hr pass0 (pa_cons (pv 1) pa_nil)))
      (blkOk_by (N := ["self", "side", "order"]) (sc := defScope s_B_resting) (by decide +kernel)) (fun _ _ _ _ _ => pg_name (i := 2) scResting.nd rfl (Or.inl rfl)) (fun _ _ _ _ _ => pts_nil) (fun _ _ _ _ _ => pe_fld (pv 2) rfl))), ?_⟩
    refine ⟨_, rfl, mB hB rfl ⟨_, rfl, b, d, B, side, rfl, hB.r, hpr, hlen, fun H1 r s1 hn hr1 => ⟨r, rfl, ⟨_, SqL.of hr1⟩, fun D hD => ?_⟩⟩⟩
    refine lc_rel (K := K) (zs := row B.ords side) (enc := refO) (p := fun _ => true) (R := fun z y _ => y = .int z.num) (SqL.of hr1) (Nat.le_trans (row_len _ _) (Nat.le_of_lt (small1000 hlen))) hD (fun _ _ _ _ _ _ _ h => h) ?_ ?_
    · intro z hz H3 s3 Qy Qn qy qn
      exact ⟨rfl, iteT (B := Qn H3) ⟨_, rfl, ro_number T ((hB.os z (row_mem.mp hz).1).same (s1.trans s3)) (qy rfl _ H3 (L2.Same.refl _) rfl)⟩⟩
    · intro H3 ys3 s3 hD3 hP3
      refine k H3 D (s1.trans s3) (s1.free hD) ?_
      rw [hD3, paired_eq hP3, List.filter_eq_self.mpr (fun _ _ => rfl)]
      unfold resting
      rw [List.map_map]
      rfl
def spNeed (K : PySem.W.Frag) : Sp := fun vs H Q E => ∃ (b d : Addr) (B : Bk) (n : Int), vs = [.ref b, .int n] ∧ BookAt K H b d B ∧ (∀ o, findO B.ords n = some o → Q (.ref o.ad) H) ∧ (findO B.ords n = none → E (.ref (He.ga K "NotThere")) none H)
theorem scNeed : FnScope ["self", "number"] ["self", "number"] (defScope s_B_need) := ⟨rfl, rfl, rfl, by decide +kernel, rfl, by decide +kernel, by decide +kernel⟩
theorem w_need (T : Tx K mg) : Mt P w K mg base (L2.CX P w) 1 "Book" "need" ["self", "number"] (spNeed K) := by
  refine ⟨okX T.f_B_need scNeed (fun _ _ _ _ _ _ us hl => match us, hl with | [_, _], _ => rfl) (fun vs H Q E h => ?_) (fun cdv A outer s H vs Q E hr h => ?_), T.clB, T.m_B_need⟩
  · obtain ⟨b, d, B, n, rfl, _⟩ := h
    rfl
  · obtain ⟨b, d, B, n, rfl, hB, k1, k2⟩ := h
    obtain ⟨xP, kP, bP, tP⟩ := T.e_NotThere
    have hu := hu_of hr
    refine ⟨_, pss_cons (ps_if (pt_cmp (pc_dnotin hu (pv 1) (pe_fld (pv 0) rfl))) (pss_one (ps_raise rfl (takes_of rfl rfl rfl rfl) (pmk_own PySem.F.excBase_ValueError xP T.g_NotThere kP (raises_own bP tP) rfl))) pss_nil)
      (pss_one (ps_ret (pe_dget hu (pe_fld (pv 0) rfl) (pv 1) (fun _ _ => rfl)))), ?_⟩
    refine ⟨_, rfl, _, rfl, rb_orders T hB ⟨d, _, rfl, DGet.k (k := Sum.inl n) hB.dc, _, rfl, ?_⟩⟩
    cases e : findO B.ords n with
    | none =>
      rw [val_none e]
      exact iteT (k2 e)
    | some o =>
      obtain ⟨ho, hn⟩ := find_some e
      have hv := val_entry hB.ndn ho
      rw [hn] at hv
      rw [hv]
      exact iteF ⟨_, rfl, rb_orders T hB ⟨_, rfl, d, _, rfl, by rw [← hv]; exact DGet.k (k := Sum.inl n) hB.dc, k1 o e⟩⟩
def spLeft (K : PySem.W.Frag) : Sp := fun vs H Q E => ∃ (b d : Addr) (B : Bk) (n : Int), vs = [.ref b, .int n] ∧ BookAt K H b d B ∧ (∀ o, findO B.ords n = some o → Q (.int o.rest) H) ∧ (findO B.ords n = none → E (.ref (He.ga K "NotThere")) none H)
theorem scLeft : FnScope ["self", "number"] ["self", "number"] (defScope s_B_left) := ⟨rfl, rfl, rfl, by decide +kernel, rfl, by decide +kernel, by decide +kernel⟩
theorem w_left (T : Tx K mg) : Mt P w K mg base (L2.CX P w) 2 "Book" "left" ["self", "number"] (spLeft K) := by
  refine ⟨okX T.f_B_left scLeft (fun _ _ _ _ _ _ us hl => match us, hl with | [_, _], _ => rfl) (fun vs H Q E h => ?_) (fun cdv A outer s H vs Q E hr h => ?_), T.clB, T.m_B_left⟩
  · obtain ⟨b, d, B, n, rfl, _⟩ := h
    rfl
  · obtain ⟨b, d, B, n, rfl, hB, k1, k2⟩ := h
    have GN : Mt P w K mg base (L2.CX P w) 1 "Book" "need" ["self", "number"] (spNeed K) := w_need T
    refine ⟨_, pss_one (ps_ret (pe_fld (pe_mt (pv 0) GN hr (passes_call (takes_of rfl rfl rfl rfl) (fun _ _ _ _ h => h)) (pa_cons (pv 1) pa_nil)) rfl)), ?_⟩
    refine ⟨_, rfl, mB hB rfl ⟨_, rfl, b, d, B, n, rfl, hB, fun o e => ro_rest T (hB.os o (find_some e).1) (k1 o e), k2⟩⟩
def spShown (K : PySem.W.Frag) : Sp := fun vs H Q E => ∃ (b d : Addr) (B : Bk) (n : Int), vs = [.ref b, .int n] ∧ BookAt K H b d B ∧ (∀ o, findO B.ords n = some o → Q (.int o.part) H) ∧ (findO B.ords n = none → E (.ref (He.ga K "NotThere")) none H)
theorem scShown : FnScope ["self", "number"] ["self", "number"] (defScope s_B_shown) := ⟨rfl, rfl, rfl, by decide +kernel, rfl, by decide +kernel, by decide +kernel⟩
theorem w_shown (T : Tx K mg) : Mt P w K mg base (L2.CX P w) 2 "Book" "shown" ["self", "number"] (spShown K) := by
  refine ⟨okX T.f_B_shown scShown (fun _ _ _ _ _ _ us hl => match us, hl with | [_, _], _ => rfl) (fun vs H Q E h => ?_) (fun cdv A outer s H vs Q E hr h => ?_), T.clB, T.m_B_shown⟩
  · obtain ⟨b, d, B, n, rfl, _⟩ := h
    rfl
  · obtain ⟨b, d, B, n, rfl, hB, k1, k2⟩ := h
    have GN : Mt P w K mg base (L2.CX P w) 1 "Book" "need" ["self", "number"] (spNeed K) := w_need T
    refine ⟨_, pss_one (ps_ret (pe_fld (pe_mt (pv 0) GN hr (passes_call (takes_of rfl rfl rfl rfl) (fun _ _ _ _ h => h)) (pa_cons (pv 1) pa_nil)) rfl)), ?_⟩
    refine ⟨_, rfl, mB hB rfl ⟨_, rfl, b, d, B, n, rfl, hB, fun o e => ro_part T (hB.os o (find_some e).1) (k1 o e), k2⟩⟩
def spIsCalling (K : PySem.W.Frag) : Sp := fun vs H Q _ => ∃ (b d : Addr) (B : Bk), vs = [.ref b] ∧ BookAt K H b d B ∧ Q (.bl B.calling) H
theorem scIsCalling : FnScope ["self"] ["self"] (defScope s_B_is_calling) := ⟨rfl, rfl, rfl, by decide +kernel, rfl, by decide +kernel, by decide +kernel⟩
theorem w_is_calling (T : Tx K mg) : Mt P w K mg base CX0 1 "Book" "is_calling" ["self"] (spIsCalling K) := by
  refine ⟨ok0 T.f_B_is_calling scIsCalling (fun _ _ _ _ _ _ us hl => match us, hl with | [_], _ => rfl) (fun vs H Q E h => ?_) (fun cdv A outer s H vs Q E hr h => ?_), T.clB, T.m_B_is_calling⟩
  · obtain ⟨b, d, B, rfl, _⟩ := h
    rfl
  · obtain ⟨b, d, B, rfl, hB, k⟩ := h
    exact ⟨_, pss_one (ps_ret (pe_fld (pv 0) rfl)), _, rfl, rb_calling T hB k⟩
def spTrade (K : PySem.W.Frag) : Sp := fun vs H Q _ => ∃ (b d : Addr) (B : Bk) (p m : Int), vs = [.ref b, .int p, .int m] ∧ BookAt K H b d B ∧ ∀ H', BookAt K H' b d { B with last := some p, traded := B.traded + m } → SameBut b H H' → Q .non H'
theorem scTrade : FnScope ["self", "price", "many"] ["self", "price", "many"] (defScope s_B_trade) := ⟨rfl, rfl, rfl, by decide +kernel, rfl, by decide +kernel, by decide +kernel⟩
theorem w_trade (T : Tx K mg) : Mt P w K mg base CX0 1 "Book" "trade" ["self", "price", "many"] (spTrade K) := by
  refine ⟨ok0 T.f_B_trade scTrade (fun _ _ _ _ _ _ us hl => match us, hl with | [_, _, _], _ => rfl) (fun vs H Q E h => ?_) (fun cdv A outer s H vs Q E hr h => ?_), T.clB, T.m_B_trade⟩
  · obtain ⟨b, d, B, p, m, rfl, _⟩ := h
    rfl
  · obtain ⟨b, d, B, p, m, rfl, hB, k⟩ := h
    refine ⟨_, pss_cons (ps_fld (pv 0) (pv 1) rfl) (pss_one (ps_fld (pv 0) (pe_op op_add (pe_fld (pv 0) rfl) (pv 2)) rfl)), ?_⟩
    exact ⟨_, rfl, _, rfl, wb_price T hB fun H1 h1 s1 => ⟨_, rfl, rb_traded T h1 ⟨_, rfl, _, _, rfl, rfl, _, rfl, wb_traded T h1 fun H2 h2 s2 => k H2 h2 fun a x n e => s2 a x n (s1 a x n e)⟩⟩⟩
end
end FB

set_option maxRecDepth 100000
set_option maxHeartbeats 4000000
/-! The walks of put and of fairbook/trading.py. -/
namespace FB
open PySem PySem.Spec PyProof.Rows L2
/-! ### lists of orders -/
theorem updO_ad {os : List Ord} {o : Ord} (h : ∀ x ∈ os, x.num = o.num → x.ad = o.ad) : (updO os o).map (·.ad) = os.map (·.ad) := by
  unfold updO
  rw [List.map_map]
  refine List.map_congr_left fun x hx => ?_
  show (if x.num = o.num then o else x).ad = x.ad
  by_cases e : x.num = o.num
  · rw [if_pos e, h x hx e]
  · rw [if_neg e]
theorem updO_entry {os : List Ord} {o : Ord} (h : ∀ x ∈ os, x.num = o.num → x.ad = o.ad) : (updO os o).map entry = os.map entry := by
  unfold updO
  rw [List.map_map]
  refine List.map_congr_left fun x hx => ?_
  show entry (if x.num = o.num then o else x) = entry x
  by_cases e : x.num = o.num
  · rw [if_pos e]
    unfold entry
    rw [e, h x hx e]
  · rw [if_neg e]
theorem putK_entry {os : List Ord} {o : Ord} (h : ∀ x ∈ os, x.num = o.num → x.ad = o.ad) : putK (os.map entry) (Sum.inl o.num) (.ref o.ad) = (putO os o).map entry := by
  by_cases q : ∃ x ∈ os, x.num = o.num
  · rw [putO_there q, updO_entry h]
    unfold putK
    rw [if_pos]
    · rw [List.map_map]
      refine List.map_congr_left fun x hx => ?_
      show (if (entry x).1 = Sum.inl o.num then ((entry x).1, V.ref o.ad) else entry x) = entry x
      by_cases e : x.num = o.num
      · rw [if_pos (show (entry x).1 = Sum.inl o.num from congrArg Sum.inl e)]
        unfold entry
        rw [h x hx e]
      · rw [if_neg (show ¬ (entry x).1 = Sum.inl o.num from fun z => e (Sum.inl.inj z))]
    · obtain ⟨x, hx, e⟩ := q
      exact List.any_eq_true.mpr ⟨entry x, List.mem_map.mpr ⟨x, hx, rfl⟩, decide_eq_true (congrArg Sum.inl e)⟩
  · have q' : ∀ x ∈ os, x.num ≠ o.num := fun x hx e => q ⟨x, hx, e⟩
    rw [putO_new q', List.map_append]
    refine putK_new _ ?_
    have : findO os o.num = none := by
      unfold findO
      exact List.find?_eq_none.mpr fun x hx => by simpa using q' x hx
    exact val_none this
/-- o stands in the book, or nothing of it does -/
def InOrNew (os : List Ord) (o : Ord) : Prop := (∃ x ∈ os, x.num = o.num ∧ x.ad = o.ad) ∨ ∀ x ∈ os, x.ad ≠ o.ad ∧ x.num ≠ o.num
section
variable {P : Program} {w : World} {K : PySem.W.Frag} {mg : Str → Option Value} {base : Heap}
theorem BookAt.numAd {H : Hp} {b d : Addr} {B : Bk} (h : BookAt K H b d B) {o : Ord} (m : InOrNew B.ords o) : ∀ x ∈ B.ords, x.num = o.num → x.ad = o.ad := fun x hx e => by
  rcases m with ⟨y, hy, e1, e2⟩ | m
  · rw [nodup_inj h.ndn hx hy (e.trans e1.symm), e2]
  · exact absurd e (m x hx).2
theorem BookAt.adNum {H : Hp} {b d : Addr} {B : Bk} (h : BookAt K H b d B) {o : Ord} (m : InOrNew B.ords o) : ∀ x ∈ B.ords, x.ad = o.ad → x.num = o.num := fun x hx e => by
  rcases m with ⟨y, hy, e1, e2⟩ | m
  · rw [nodup_inj h.nda hx hy (e.trans e2.symm), e1]
  · exact absurd e (m x hx).1
/-- an order's object is changed -/
theorem BookAt.chg {H H' : Hp} {b d : Addr} {B : Bk} {o o' : Ord} (h : BookAt K H b d B) (ho : OrdAt K H o) (m : InOrNew B.ords o) (h' : OrdAt K H' o') (s : SameBut o.ad H H') (ea : o'.ad = o.ad) (en : o'.num = o.num) : BookAt K H' b d { B with ords := updO B.ords o' } := by
  have na : ∀ x ∈ B.ords, x.num = o'.num → x.ad = o'.ad := fun x hx e => by rw [ea]; exact h.numAd m x hx (e.trans en)
  refine ⟨let ⟨dx, e⟩ := h.bk; ⟨dx, s _ _ (Ne.symm (ho.nb h)) e⟩, ?_, fun x hx => ?_, ?_, ?_⟩
  · show H' d = some (.dK ((updO B.ords o').map entry))
    rw [updO_entry na]
    exact s _ _ (Ne.symm (ho.nd h)) h.dc
  · rcases mem_updO hx with ⟨e, _⟩ | ⟨hx, n⟩
    · rw [e]
      exact h'
    · exact (h.os x hx).but s fun z => n (by rw [en]; exact h.adNum m x hx z)
  · show ((updO B.ords o').map (·.ad)).Nodup
    rw [updO_ad na]
    exact h.nda
  · show ((updO B.ords o').map (·.num)).Nodup
    rw [updO_num]
    exact h.ndn
theorem BookAt.stored {H : Hp} {b d : Addr} {B : Bk} {o : Ord} (h : BookAt K H b d B) (ho : OrdAt K H o) (hm : o ∈ B.ords ∨ ∀ x ∈ B.ords, x.ad ≠ o.ad ∧ x.num ≠ o.num) : BookAt K (upd H d (.dK ((putO B.ords o).map entry))) b d { B with ords := putO B.ords o } := by
  have e1 : ∀ {x : Ord}, OrdAt K H x → OrdAt K (upd H d (.dK ((putO B.ords o).map entry))) x := fun hx => hx.but sb_upd (hx.nd h)
  refine ⟨let ⟨dx, e⟩ := h.bk; ⟨dx, by rw [upd_ne h.bd]; exact e⟩, upd_same, fun x hx => ?_, ?_, ?_⟩
  · rcases hm with hm | hm
    · have hx' : x ∈ updO B.ords o := by rw [← putO_there ⟨o, hm, rfl⟩]; exact hx
      rcases mem_updO hx' with ⟨e, _⟩ | ⟨hx, _⟩
      · rw [e]
        exact e1 ho
      · exact e1 (h.os x hx)
    · have hx' : x ∈ B.ords ++ [o] := by rw [← putO_new fun x hx => (hm x hx).2]; exact hx
      rcases List.mem_append.mp hx' with hx | hx
      · exact e1 (h.os x hx)
      · rw [List.mem_singleton.mp hx]
        exact e1 ho
  · show ((putO B.ords o).map (·.ad)).Nodup
    rcases hm with hm | hm
    · rw [putO_there ⟨o, hm, rfl⟩, updO_ad fun x hx e => by rw [nodup_inj h.ndn hx hm e]]
      exact h.nda
    · rw [putO_new fun x hx => (hm x hx).2, List.map_append]
      exact nd_snoc h.nda fun z => by
        obtain ⟨x, hx, e⟩ := List.mem_map.mp z
        exact (hm x hx).1 e
  · show ((putO B.ords o).map (·.num)).Nodup
    rcases hm with hm | hm
    · rw [putO_there ⟨o, hm, rfl⟩, updO_num]
      exact h.ndn
    · rw [putO_new fun x hx => (hm x hx).2, List.map_append]
      exact nd_snoc h.ndn fun z => by
        obtain ⟨x, hx, e⟩ := List.mem_map.mp z
        exact (hm x hx).2 e
theorem BookAt.dropped {H : Hp} {b d : Addr} {B : Bk} (h : BookAt K H b d B) (n : Int) : BookAt K (upd H d (.dK ((dropO B.ords n).map entry))) b d { B with ords := dropO B.ords n } := by
  refine ⟨let ⟨dx, e⟩ := h.bk; ⟨dx, by rw [upd_ne h.bd]; exact e⟩, upd_same, fun x hx => ?_, ?_, ?_⟩
  · have hx := h.os x (List.mem_filter.mp hx).1
    exact hx.but sb_upd (hx.nd h)
  · exact h.nda.sublist ((List.filter_sublist).map _)
  · exact h.ndn.sublist ((List.filter_sublist).map _)
theorem InOrNew.upd {os : List Ord} {o o' : Ord} (m : InOrNew os o) (ea : o'.ad = o.ad) (en : o'.num = o.num) : InOrNew (updO os o') o' := by
  rcases m with ⟨x, hx, e1, e2⟩ | m
  · refine .inl ⟨o', ?_, rfl, rfl⟩
    unfold updO
    exact List.mem_map.mpr ⟨x, hx, if_pos (e1.trans en.symm)⟩
  · refine .inr ?_
    rw [updO_none fun x hx => by rw [en]; exact (m x hx).2, ea, en]
    exact m
def spPut (K : PySem.W.Frag) : Sp := fun vs H Q _ => ∃ (b d : Addr) (B : Bk) (o : Ord), vs = [.ref b, .ref o.ad] ∧ BookAt K H b d B ∧ OrdAt K H o ∧ InOrNew B.ords o ∧ B.ords.length ≤ 1000 ∧
  ∀ H', BookAt K H' b d (B.put o) → (∃ o', o'.ad = o.ad ∧ o'.num = o.num ∧ o'.price = o.price ∧ OrdAt K H' o') → (∀ a x, H a = some x → a ≠ b → a ≠ d → a ≠ o.ad → H' a = some x) → Q .non H'
theorem scPut : FnScope ["self", "order"] ["self", "order"] (defScope s_B_put) := ⟨rfl, rfl, rfl, by decide +kernel, rfl, by decide +kernel, by decide +kernel⟩
theorem w_put (T : Tx K mg) : Mt P w K mg base CX0 2 "Book" "put" ["self", "order"] (spPut K) := by
  refine ⟨ok0 T.f_B_put scPut (fun _ _ _ _ _ _ us hl => match us, hl with | [_, _], _ => rfl) (fun vs H Q E h => ?_) (fun cdv A outer s H vs Q E hr h => ?_), T.clB, T.m_B_put⟩
  · obtain ⟨b, d, B, o, rfl, _⟩ := h
    rfl
  · obtain ⟨b, d, B, o, rfl, hB, ho, hm, hlen, k⟩ := h
    have GS : Mt P w K mg base CX0 1 "Order" "show" ["self"] (spShow K) := w_show T
    have hu := hu_of hr
    refine ⟨_, pss_cons (ps_fld (pv 0) (pe_op op_add (pe_fld (pv 0) rfl) pe_int) rfl) (pss_cons (ps_fld (pv 1) (pe_fld (pv 0) rfl) rfl)
      (pss_cons (ps_expr (pe_mt0 (pv 1) GS hr pass0)) (pss_one (ps_dput hu (pe_fld (pv 0) rfl) (pe_fld (pv 1) rfl) (pv 1) rfl)))), ?_⟩
    refine ⟨_, rfl, rb_places T hB ⟨_, _, rfl, rfl, _, rfl, wb_places T hB fun H1 hB1 s1 => ?_⟩⟩
    have ho1 : OrdAt K H1 o := ho.but s1 (ho.nb hB)
    refine ⟨_, rfl, rb_places T hB1 ⟨_, rfl, wo_place T ho1 fun H2 ho2 s2 => ?_⟩⟩
    have hB2 := hB1.chg ho1 hm ho2 s2 rfl rfl
    have hm2 : InOrNew (updO B.ords { o with place := B.places + 1 }) { o with place := B.places + 1 } := hm.upd rfl rfl
    refine ⟨_, rfl, mO (o := { o with place := B.places + 1 }) ho2 rfl ⟨{ o with place := B.places + 1 }, rfl, ho2, fun H3 ho3 s3 => ?_⟩⟩
    have hB3 := hB2.chg ho2 hm2 ho3 s3 rfl rfl
    have hm3 : InOrNew (updO B.ords ({ o with place := B.places + 1 } : Ord).show) ({ o with place := B.places + 1 } : Ord).show := by
      have e := updO_upd (os := B.ords) (o1 := { o with place := B.places + 1 }) (o2 := ({ o with place := B.places + 1 } : Ord).show) rfl
      rw [← e]
      exact hm2.upd rfl rfl
    have hB3' : BookAt K H3 b d { B with places := B.places + 1, ords := updO B.ords ({ o with place := B.places + 1 } : Ord).show } := by
      have e := updO_upd (os := B.ords) (o1 := { o with place := B.places + 1 }) (o2 := ({ o with place := B.places + 1 } : Ord).show) rfl
      rw [← e]
      exact hB3
    have fr : ∀ a x, H a = some x → a ≠ b → a ≠ o.ad → H3 a = some x := fun a x e n1 n2 => s3 a x n2 (s2 a x n2 (s1 a x n1 e))
    refine ⟨_, rfl, _, rfl, rb_orders T hB3' ⟨_, rfl, ro_number T ho3 ⟨d, _, rfl, DPut.k (k := Sum.inl o.num) hB3'.dc ?_, ?_⟩⟩⟩
    · rw [List.length_map]
      unfold updO
      rw [List.length_map]
      exact small1000 hlen
    · have ep : putK (((updO B.ords ({ o with place := B.places + 1 } : Ord).show)).map entry) (Sum.inl o.num) (.ref o.ad) = (putO B.ords ({ o with place := B.places + 1 } : Ord).show).map entry := by
        have e1 := putK_entry (os := updO B.ords ({ o with place := B.places + 1 } : Ord).show) (o := ({ o with place := B.places + 1 } : Ord).show) (hB3'.numAd hm3)
        exact e1.trans (congrArg (List.map entry) (putO_updO _ _))
      have eo := putO_updO B.ords ({ o with place := B.places + 1 } : Ord).show
      have hst := hB3'.stored ho3 (by
        rcases hm with ⟨x, hx, e2, e3⟩ | hm
        · exact .inl (mem_upd ⟨x, hx, e2⟩)
        · refine .inr ?_
          show ∀ x ∈ updO B.ords ({ o with place := B.places + 1 } : Ord).show, _
          rw [updO_none (o := ({ o with place := B.places + 1 } : Ord).show) fun x hx => (hm x hx).2]
          exact hm)
      have key : ∀ H4, H4 = upd H3 d (.dK (putK (((updO B.ords ({ o with place := B.places + 1 } : Ord).show)).map entry) (Sum.inl o.num) (.ref o.ad))) → Q .non H4 := fun H4 e4 => by
        rw [ep] at e4
        have hst' : BookAt K H4 b d (B.put o) := by
          rw [e4]
          show BookAt K _ b d { B with places := B.places + 1, ords := putO B.ords ({ o with place := B.places + 1 } : Ord).show }
          have hst2 : BookAt K (upd H3 d (.dK ((putO (updO B.ords ({ o with place := B.places + 1 } : Ord).show) ({ o with place := B.places + 1 } : Ord).show).map entry))) b d { B with places := B.places + 1, ords := putO (updO B.ords ({ o with place := B.places + 1 } : Ord).show) ({ o with place := B.places + 1 } : Ord).show } := hst
          rw [eo] at hst2
          exact hst2
        refine k H4 hst' ⟨({ o with place := B.places + 1 } : Ord).show, rfl, rfl, rfl, ?_⟩ fun a x e n1 n2 n3 => ?_
        · rw [e4]
          exact ho3.but sb_upd (ho3.nd hB3')
        · rw [e4, upd_ne n2]
          exact fr a x e n1 n3
      exact key _ rfl
/-- the sum of what the first i of a list tell by f, of those that pass q -/
def upTo {α : Type} (q : α → Bool) (f : α → Int) (l : List α) (i : Nat) : Int := (((l.take i).filter q).map f).sum
theorem upTo_step {α : Type} {q : α → Bool} {f : α → Int} {l : List α} {i : Nat} {z : α} (h : l[i]? = some z) : upTo q f l (i + 1) = upTo q f l i + (if q z = true then f z else 0) := by
  unfold upTo
  have tk : l.take (i + 1) = l.take i ++ [z] := by
    rw [List.take_add_one, h]
    rfl
  rw [tk, List.filter_append, List.filter_cons]
  by_cases e : q z = true
  · simp [e]
  · simp [e]
theorem upTo_all {α : Type} {q : α → Bool} {f : α → Int} {l : List α} : upTo q f l l.length = ((l.filter q).map f).sum := by
  unfold upTo
  rw [List.take_length]
def spCanFill (K : PySem.W.Frag) : Sp := fun vs H Q _ => ∃ (b d : Addr) (B : Bk) (o : Ord), vs = [.ref b, .ref o.ad] ∧ BookAt K H b d B ∧ Priced B.ords ∧ B.ords.length ≤ 1000 ∧ OrdAt K H o ∧ ∀ H', L2.Same H H' → Q (.bl (canFill B.ords o)) H'
theorem scCanFill : FnScope ["book", "order", "there", "one"] ["book", "order"] (defScope s_can_fill) := ⟨rfl, rfl, rfl, by decide +kernel, rfl, by decide +kernel, by decide +kernel⟩
theorem w_can_fill (T : Tx K mg) : Fn P w K mg base CX0 3 "can_fill" ["book", "order"] (spCanFill K) := by
  refine ⟨ok0 T.f_can_fill scCanFill (fun _ _ _ _ _ _ us hl => match us, hl with | [_, _], _ => rfl) (fun vs H Q E h => ?_) (fun cdv A outer s H vs Q E hr h => ?_), T.g_can_fill, ?_⟩
  · obtain ⟨b, d, B, o, rfl, _⟩ := h
    rfl
  · obtain ⟨b, d, B, o, rfl, hB, hpr, hlen, ho, k⟩ := h
    have GR : Mt P w K mg base CX0 2 "Book" "row" ["self", "side"] (spRow K) := w_row T
    have GO : Fn P w K mg base CX0 1 "other_side" ["side"] spOther := w_other T
    have GS : Mt P w K mg base CX0 1 "Order" "suits" ["self", "price"] (spSuits K) := w_suits T
    have hr1 := hr.mono (j := 1) (by decide)
    refine ⟨_, pss_cons (ps_set (i := 2) scCanFill.nd rfl (Or.inl rfl) pe_int)
      (pss_cons (ps_for PassesOwn.never rfl (pi_list (pe_mt (pv 0) GR hr pass0 (pa_cons (pe_fn GO hr1 rfl pass0 (pa_cons (pe_fld (pv 1) rfl) pa_nil)) pa_nil))) (pg_name (i := 3) scCanFill.nd rfl (Or.inl rfl))
        (pss_one (ps_if (PW.pt (pw_and (pt_val (pe_mt (pv 1) GS hr1 pass0 (pa_cons (pe_fld (pv 3) rfl) pa_nil))) (pw_and1 (pt_cmpR op_ne (pe_fld (pv 3) rfl) (pe_fld (pv 1) rfl) (nomark _)))))
          (pss_one (ps_set (i := 2) scCanFill.nd rfl (Or.inl rfl) (pe_op op_add (pv 2) (pe_fld (pv 3) rfl)))) pss_nil)))
      (pss_one (ps_ret (pe_cmpR op_ge (pv 2) (pe_fld (pv 1) rfl) (nomark _))))), ?_⟩
    refine ⟨_, rfl, mB hB rfl ⟨_, rfl, ro_side T ho ⟨o.buy, rfl, b, d, B, !o.buy, rfl, hB.r, hpr, hlen, fun H1 r s1 hn hr1 => ⟨r, rfl, ⟨_, SqL.of hr1⟩, ?_⟩⟩⟩⟩
    refine for_zs (K := K) (zs := row B.ords (!o.buy)) (enc := refO) (fun i σ H2 => L2.Same H1 H2 ∧ ∃ v : Option V, σ = [some (.ref b), some (.ref o.ad), some (.int (upTo (fun x => o.suits x.pr && decide (x.own ≠ o.own)) (·.rest) (row B.ords (!o.buy)) i)), v])
      ⟨L2.Same.refl _, none, rfl⟩ (fun i σ H2 _ h => h.1.seq (SqL.of hr1)) ?_ ?_
    · rintro i z σ H2 hi ⟨s2, v, rfl⟩
      have hz := row_mem.mp (List.mem_of_getElem? hi)
      have hO2 := (ho.same s1).same s2
      have hz2 := ((hB.os z hz.1).same s1).same s2
      have st := upTo_step (q := fun x => o.suits x.pr && decide (x.own ≠ o.own)) (f := (·.rest)) hi
      refine ⟨_, rfl, mO hO2 rfl ⟨_, rfl, ro_price T hz2 ⟨o, z.pr, by rw [hpr z hz.1]; rfl, hO2, _, rfl, ?_⟩⟩⟩
      cases e1 : o.suits z.pr with
      | false =>
        refine iteF (iteF ⟨s2, some (refO z), ?_⟩)
        rw [st, e1]
        simp
      | true =>
        refine iteT ⟨_, rfl, ro_owner T hz2 ⟨_, rfl, ro_owner T hO2 ⟨rfl, _, rfl, ?_⟩⟩⟩
        rw [dec_int]
        cases e2 : (z.own == o.own) with
        | true =>
          refine iteF ⟨s2, some (refO z), ?_⟩
          have e3 : z.own = o.own := by simpa using e2
          rw [st, e1]
          simp [e3]
        | false =>
          refine iteT ⟨_, rfl, _, rfl, ro_rest T hz2 ⟨_, _, rfl, rfl, s2, some (refO z), ?_⟩⟩
          have e3 : ¬ z.own = o.own := by simpa using e2
          rw [st, e1]
          simp [e3]
    · rintro σ H2 ⟨s2, v, rfl⟩
      refine ⟨_, rfl, _, rfl, ro_rest T ((ho.same s1).same s2) ⟨_, _, rfl, rfl, ?_⟩⟩
      rw [upTo_all]
      exact k H2 (s1.trans s2)
  · obtain ⟨fd, F⟩ := T.f_can_fill
    exact F.kp
def evV : Ev → List V
  | .trade n p m => [.str "trade", .int n, .int p, .int m]
  | .out n => [.str "out", .int n]
def EvAt (H : Hp) (e : Ev) (y : V) : Prop := ∃ t, y = .ref t ∧ H t = some (.tup (evV e))
theorem EvAt.kd {d : Addr} {H H' : Hp} {e : Ev} {y : V} (h : EvAt H e y) (k : Kd d H H') (n : ∃ kvs, H d = some (.dK kvs)) : EvAt H' e y := by
  obtain ⟨t, e1, e2⟩ := h
  obtain ⟨kvs, e3⟩ := n
  exact ⟨t, e1, k t _ e2 rfl (ne_of e2 e3 (by intro z; cases z))⟩
theorem BookAt.hd {H : Hp} {b d : Addr} {B : Bk} (h : BookAt K H b d B) : ∃ kvs, H d = some (.dK kvs) := ⟨_, h.dc⟩
/-- nothing of o stands in the book -/
def New (os : List Ord) (o : Ord) : Prop := ∀ x ∈ os, x.ad ≠ o.ad ∧ x.num ≠ o.num
def spMeet (K : PySem.W.Frag) : Sp := fun vs H Q _ => ∃ (b d : Addr) (B : Bk) (o one : Ord), vs = [.ref b, .ref o.ad, .ref one.ad] ∧ BookAt K H b d B ∧ OrdAt K H o ∧ New B.ords o ∧ one ∈ B.ords ∧ one.price = some one.pr ∧ B.ords.length ≤ 1000 ∧
  ∀ H' t, BookAt K H' b d (afterMeet B o one) → OrdAt K H' (afterMeetO o one) → Kd d H H' → H' t = some (.tup (evV (.trade one.num one.pr (cut o one)))) → Q (.ref t) H'
theorem scMeet : FnScope ["book", "order", "one", "many"] ["book", "order", "one"] (defScope s_meet) := ⟨rfl, rfl, rfl, by decide +kernel, rfl, by decide +kernel, by decide +kernel⟩
theorem w_meet (T : Tx K mg) : Fn P w K mg base CX0 3 "meet" ["book", "order", "one"] (spMeet K) := by
  refine ⟨ok0 T.f_meet scMeet (fun _ _ _ _ _ _ us hl => match us, hl with | [_, _, _], _ => rfl) (fun vs H Q E h => ?_) (fun cdv A outer s H vs Q E hr h => ?_), T.g_meet, ?_⟩
  · obtain ⟨b, d, B, o, one, rfl, _⟩ := h
    rfl
  · obtain ⟨b, d, B, o, one, rfl, hB, ho, hnew, h1, hpr, hlen, k⟩ := h
    have GT : Mt P w K mg base CX0 1 "Book" "trade" ["self", "price", "many"] (spTrade K) := w_trade T
    have GP : Mt P w K mg base CX0 2 "Book" "put" ["self", "order"] (spPut K) := w_put T
    have hr1 := hr.mono (j := 1) (by decide)
    refine ⟨_, pss_cons (ps_set (i := 3) scMeet.nd rfl (Or.inl rfl) (pe_callB (call_min2 rfl) (by rfl) T.z_min boot_min (pa_cons (pe_fld (pv 1) rfl) (pa_cons (pe_fld (pv 2) rfl) pa_nil))))
      (pss_cons (ps_fld (pv 1) (pe_op op_sub (pe_fld (pv 1) rfl) (pv 3)) rfl)
      (pss_cons (ps_fld (pv 2) (pe_op op_sub (pe_fld (pv 2) rfl) (pv 3)) rfl)
      (pss_cons (ps_fld (pv 2) (pe_op op_sub (pe_fld (pv 2) rfl) (pv 3)) rfl)
      (pss_cons (ps_expr (pe_mt (pv 0) GT hr1 pass0 (pa_cons (pe_fld (pv 2) rfl) (pa_cons (pv 3) pa_nil))))
      (pss_cons (ps_if (pt_cmpR op_eq (pe_fld (pv 2) rfl) pe_int (nomark _)) (pss_one (ps_expr (pe_dpop1 (pe_fld (pv 0) rfl) (pe_fld (pv 2) rfl) ⟨rfl, rfl, rfl, rfl⟩)))
        (pss_one (ps_if (pt_cmpR op_eq (pe_fld (pv 2) rfl) pe_int (nomark _)) (pss_one (ps_expr (pe_mt (pv 0) GP hr pass0 (pa_cons (pv 2) pa_nil)))) pss_nil)))
      (pss_one (ps_ret (pe_tup (pa_cons pe_str (pa_cons (pe_fld (pv 2) rfl) (pa_cons (pe_fld (pv 2) rfl) (pa_cons (pv 3) pa_nil)))))))))))), ?_⟩
    have h1o := hB.os one h1
    have hne : one.ad ≠ o.ad := (hnew one h1).1
    refine ⟨_, rfl, ro_rest T ho ⟨_, rfl, ro_part T h1o ⟨_, _, rfl, ?_⟩⟩⟩
    refine ⟨_, rfl, ro_rest T ho ⟨_, rfl, _, _, rfl, rfl, _, rfl, wo_rest T ho fun H1 hO1 s1 => ?_⟩⟩
    have hB1 : BookAt K H1 b d B := by
      refine hB.but s1 (Ne.symm (ho.nb hB)) (Ne.symm (ho.nd hB)) fun x hx => (hnew x hx).1
    have h11 := h1o.but s1 hne
    have hm1 : InOrNew B.ords one := .inl ⟨one, h1, rfl, rfl⟩
    refine ⟨_, rfl, ro_rest T h11 ⟨_, rfl, _, _, rfl, rfl, _, rfl, wo_rest T h11 fun H2 h12 s2 => ?_⟩⟩
    have hB2 := hB1.chg h11 hm1 h12 s2 rfl rfl
    refine ⟨_, rfl, ro_part T h12 ⟨_, rfl, _, _, rfl, rfl, _, rfl, wo_part T h12 fun H3 h13 s3 => ?_⟩⟩
    have hB3 := hB2.chg h12 (hm1.upd rfl rfl) h13 s3 rfl rfl
    have hO3 : OrdAt K H3 (afterMeetO o one) := (hO1.but s2 (Ne.symm hne)).but s3 (Ne.symm hne)
    have hB3' : BookAt K H3 b d { B with ords := updO B.ords { one with rest := one.rest - cut o one, part := one.part - cut o one } } := by
      have e := updO_upd (os := B.ords) (o1 := { one with rest := one.rest - cut o one }) (o2 := { one with rest := one.rest - cut o one, part := one.part - cut o one }) rfl
      rw [← e]
      exact hB3
    have h13' : OrdAt K H3 { one with rest := one.rest - cut o one, part := one.part - cut o one } := h13
    have k3 : Kd d H H3 := ((Kd.ord ho s1).trans (Kd.ord h11 s2)).trans (Kd.ord h12 s3)
    have fin : ∀ H5, BookAt K H5 b d (afterMeet B o one) → OrdAt K H5 (afterMeetO o one) → (∃ x, OrdAt K H5 x ∧ x.ad = one.ad ∧ x.num = one.num ∧ x.price = one.price) → Kd d H H5 →
        (tRet (tTup (tCons (tC (.str "trade")) (tCons (tFld K (tVar 2) "number") (tCons (tFld K (tVar 2) "price") (tCons (tVar 3) tNil)))))) { nx := fun _ H' => Q .non H', rt := Q } [some (.ref b), some (.ref o.ad), some (.ref one.ad), some (.int (cut o one))] H5 := by
      rintro H5 hB5 hO5 ⟨x, hx, ea, en, ep⟩ k5
      refine ⟨_, rfl, ?_⟩
      rw [← ea]
      refine ro_number T hx ⟨_, rfl, ?_⟩
      refine ro_price T hx ⟨_, rfl, by show 4 ≤ sizeLine; decide, fun t ht => ?_⟩
      have e : [V.str "trade", .int x.num, optV x.price, .int (cut o one)] = evV (.trade one.num one.pr (cut o one)) := by
        rw [en, ep, hpr]
        rfl
      rw [e]
      have sm := same_new (o := .tup (evV (.trade one.num one.pr (cut o one)))) ht
      exact k _ t (hB5.same sm) (hO5.same sm) (k5.trans (Kd.of sm)) upd_same
    refine ⟨_, rfl, mB hB3' rfl ⟨_, rfl, ro_price T h13' ⟨_, rfl, b, d, _, one.pr, cut o one, ?_, hB3', fun H4 hB4 s4 => ?_⟩⟩⟩
    · show [V.ref b, optV one.price, V.int (cut o one)] = _
      rw [hpr]
      rfl
    have h14 := h13'.but s4 (h13'.nb hB3')
    have hO4 := hO3.but s4 (OrdAt.nb (o := afterMeetO o one) hO3 hB3')
    have k4 : Kd d H H4 := k3.trans (let ⟨_, e⟩ := hB3'.bk; Kd.ins e s4)
    have h1m : ∃ x ∈ updO B.ords { one with rest := one.rest - cut o one, part := one.part - cut o one }, x.num = one.num ∧ x.ad = one.ad := ⟨_, mem_upd ⟨one, h1, rfl⟩, rfl, rfl⟩
    refine ⟨_, rfl, ro_rest T h14 ⟨rfl, _, rfl, ?_⟩⟩
    rw [dec_int]
    cases e1 : (one.rest - cut o one == 0) with
    | true =>
      have e1' : one.rest - cut o one = 0 := by simpa using e1
      refine iteT ⟨_, rfl, rb_orders T hB4 ⟨d, rfl, .inl ⟨_, .inl hB4.dc⟩, _, rfl, ro_number T h14 ⟨_, Sum.inl one.num, .ref one.ad, hB4.dc, rfl, val_entry (o := { one with rest := one.rest - cut o one, part := one.part - cut o one }) hB4.ndn (mem_upd ⟨one, h1, rfl⟩), ?_⟩⟩⟩
      have hd5 := hB4.dropped one.num
      rw [drop_entry]
      have em : afterMeet B o one = { ({ B with last := some one.pr, traded := B.traded + cut o one } : Bk) with ords := dropO B.ords one.num } := by
        unfold afterMeet
        exact if_pos e1'
      have ed : dropO (updO B.ords { one with rest := one.rest - cut o one, part := one.part - cut o one }) one.num = dropO B.ords one.num := dropO_upd rfl
      refine fin _ ?_ (hO4.but sb_upd (OrdAt.nd (o := afterMeetO o one) hO4 hB4)) ⟨_, h14.but sb_upd (h14.nd hB4), rfl, rfl, rfl⟩ (k4.trans (Kd.dct sb_upd))
      rw [em, ← ed]
      exact hd5
    | false =>
      have e1' : ¬ one.rest - cut o one = 0 := by simpa using e1
      refine iteF ⟨_, rfl, ro_part T h14 ⟨rfl, _, rfl, ?_⟩⟩
      rw [dec_int]
      cases e2 : (one.part - cut o one == 0) with
      | false =>
        have e2' : ¬ one.part - cut o one = 0 := by simpa using e2
        have em : afterMeet B o one = { ({ B with last := some one.pr, traded := B.traded + cut o one } : Bk) with ords := updO B.ords { one with rest := one.rest - cut o one, part := one.part - cut o one } } := by
          unfold afterMeet
          exact (if_neg e1').trans (if_neg e2')
        refine iteF (fin H4 ?_ hO4 ⟨_, h14, rfl, rfl, rfl⟩ k4)
        rw [em]
        exact hB4
      | true =>
        have e2' : one.part - cut o one = 0 := by simpa using e2
        refine iteT ⟨_, rfl, mB hB4 rfl ⟨_, rfl, b, d, _, { one with rest := one.rest - cut o one, part := one.part - cut o one }, rfl, hB4, h14, .inl ⟨_, mem_upd ⟨one, h1, rfl⟩, rfl, rfl⟩, by rw [updO_len]; exact hlen, fun H5 hB5 hx fr => ?_⟩⟩
        have em : afterMeet B o one = ({ B with last := some one.pr, traded := B.traded + cut o one } : Bk).put { one with rest := one.rest - cut o one, part := one.part - cut o one } := by
          unfold afterMeet
          exact (if_neg e1').trans (if_pos e2')
        have ep := put_upd { B with last := some one.pr, traded := B.traded + cut o one } (o1 := { one with rest := one.rest - cut o one, part := one.part - cut o one }) (o := { one with rest := one.rest - cut o one, part := one.part - cut o one }) rfl
        obtain ⟨x, xa, xn, xr, xo⟩ := hx
        obtain ⟨dy, e5⟩ := hO4
        have hne5 : o.ad ≠ b := OrdAt.nb (o := afterMeetO o one) ⟨dy, e5⟩ hB4
        have hnd5 : o.ad ≠ d := OrdAt.nd (o := afterMeetO o one) ⟨dy, e5⟩ hB4
        refine fin H5 (by rw [em, ← ep]; exact hB5) ⟨dy, fr _ _ e5 hne5 hnd5 (Ne.symm hne)⟩ ⟨x, xo, xa, xn, ?_⟩ (k4.trans fun a y h i n => fr a y h ?_ n ?_)
        · exact xr
        · intro z
          obtain ⟨dx, e⟩ := hB4.bk
          rw [z, e] at h
          cases h
          cases i
        · intro z
          obtain ⟨dx, e⟩ := h14
          rw [z] at h
          have e : H4 one.ad = some (.ins (CO K) dx (ordF { one with rest := one.rest - cut o one, part := one.part - cut o one })) := e
          rw [e] at h
          cases h
          cases i
  · obtain ⟨fd, F⟩ := T.f_meet
    exact F.kp
end
end FB

set_option maxRecDepth 100000
set_option maxHeartbeats 4000000
/-! The walks of matched, place, cancel, change. -/
namespace FB
open PySem PySem.Spec PyProof.Rows L2
/-- tuples stay -/
def TupKeep (H H' : Hp) : Prop := ∀ t xs, H t = some (.tup xs) → H' t = some (.tup xs)
theorem TupKeep.trans {H H1 H2 : Hp} (a : TupKeep H H1) (b : TupKeep H1 H2) : TupKeep H H2 := fun t xs h => b t xs (a t xs h)
theorem TupKeep.kd {d : Addr} {H H' : Hp} (k : Kd d H H') (n : ∃ kvs, H d = some (.dK kvs)) : TupKeep H H' := fun t xs h => by
  obtain ⟨kvs, e⟩ := n
  exact k t _ h rfl (ne_of h e (by intro z; cases z))
theorem TupKeep.of {H H' : Hp} (s : L2.Same H H') : TupKeep H H' := fun t xs h => s t _ h
theorem TupKeep.lst {H : Hp} {r : Addr} {xs ys : List V} (h : H r = some (.lst xs)) : TupKeep H (upd H r (.lst ys)) := fun t us e => by
  rw [upd_ne (ne_of e h (by intro z; cases z))]
  exact e
theorem EvAt.keep {H H' : Hp} {e : Ev} {y : V} (h : EvAt H e y) (k : TupKeep H H') : EvAt H' e y := let ⟨t, e1, e2⟩ := h; ⟨t, e1, k _ _ e2⟩
theorem evs_keep {H H' : Hp} {es : List Ev} {ys : List V} (h : Paired (EvAt H) es ys) (k : TupKeep H H') : Paired (EvAt H') es ys := paired_map (fun _ _ r => r.keep k) h
theorem Kd.lst' {d r : Addr} {H H' : Hp} {xs ys : List V} (k : Kd d H H') (hn : H r = none) (e : H' r = some (.lst xs)) : Kd d H (upd H' r (.lst ys)) := fun a x h i n => by
  rw [upd_ne (ne_of_none h hn)]
  exact k a x h i n
theorem New.within {os os' : List Ord} {o o' : Ord} (h : New os o) (w : Within os' os) (l : Like o' o) : New os' o' := fun x hx => by
  obtain ⟨y, hy, k, _⟩ := w x hx
  rw [k.ad, k.num, l.ad, l.num]
  exact h y hy
theorem BookAt.lst {K : PySem.W.Frag} {H : Hp} {b d r : Addr} {B : Bk} {xs ys : List V} (h : BookAt K H b d B) (e : H r = some (.lst xs)) : BookAt K (upd H r (.lst ys)) b d B :=
  h.but sb_upd (let ⟨_, q⟩ := h.bk; ne_of q e (by intro z; cases z)) (ne_of h.dc e (by intro z; cases z)) fun o ho => let ⟨_, q⟩ := h.os o ho; ne_of q e (by intro z; cases z)
theorem OrdAt.lst {K : PySem.W.Frag} {H : Hp} {r : Addr} {o : Ord} {xs ys : List V} (h : OrdAt K H o) (e : H r = some (.lst xs)) : OrdAt K (upd H r (.lst ys)) o := let ⟨dx, q⟩ := h; ⟨dx, by rw [upd_ne (ne_of q e (by intro z; cases z))]; exact q⟩
theorem priced_of {B : Bk} (h : BkOk B) : Priced B.ords := fun o ho => (h.os o ho).price
section
variable {P : Program} {w : World} {K : PySem.W.Frag} {mg : Str → Option Value} {base : Heap}
def spMatched (K : PySem.W.Frag) : Sp := fun vs H Q _ => ∃ (b d : Addr) (B : Bk) (o : Ord), vs = [.ref b, .ref o.ad] ∧ BookAt K H b d B ∧ OrdAt K H o ∧ BkOk B ∧ New B.ords o ∧ B.ords.length ≤ 1000 ∧ o.rest ≤ 10000 ∧
  ∀ H' r ys, BookAt K H' b d (matchAll (B, o)).2.1 → OrdAt K H' (matchAll (B, o)).2.2 → Kd d H H' → H' r = some (.lst ys) → Paired (EvAt H') (matchAll (B, o)).1 ys → Q (.ref r) H'
/-- between two turns -/
structure Mid (K : PySem.W.Frag) (H0 : Hp) (b d r : Addr) (B : Bk) (o : Ord) (H : Hp) (Bc : Bk) (oc : Ord) (evs : List Ev) (ys : List V) : Prop where
  hB : BookAt K H b d Bc
  hO : OrdAt K H oc
  ok : BkOk Bc
  new : New Bc.ords oc
  len : Bc.ords.length ≤ 1000
  like : Like oc o
  kd : Kd d H0 H
  lst : H r = some (.lst ys)
  pev : Paired (EvAt H) evs ys
  all : matchAll (B, o) = (evs ++ (matchAll (Bc, oc)).1, (matchAll (Bc, oc)).2)
  mu : evs.length + mu1 (Bc, oc) ≤ 11000
theorem lenOk {H0 : Hp} {b d r : Addr} {B : Bk} {o : Ord} {H : Hp} {Bc : Bk} {oc : Ord} {evs : List Ev} {ys : List V} (M : Mid K H0 b d r B o H Bc oc evs ys) : ys.length < sizeLine := by
  have h1 := paired_len M.pev
  have h2 := M.mu
  rw [sizeLine_eq]
  omega
theorem scMatched : FnScope ["book", "order", "told", "others"] ["book", "order"] (defScope s_matched) := ⟨rfl, rfl, rfl, by decide +kernel, rfl, by decide +kernel, by decide +kernel⟩
theorem w_matched (T : Tx K mg) : Fn P w K mg base CX0 4 "matched" ["book", "order"] (spMatched K) := by
  refine ⟨ok0 T.f_matched scMatched (fun _ _ _ _ _ _ us hl => match us, hl with | [_, _], _ => rfl) (fun vs H Q E h => ?_) (fun cdv A outer s H vs Q E hr h => ?_), T.g_matched, ?_⟩
  · obtain ⟨b, d, B, o, rfl, _⟩ := h
    rfl
  · obtain ⟨b, d, B, o, rfl, hB, ho, hok, hnew, hlen, hrest, k⟩ := h
    have GR : Mt P w K mg base CX0 2 "Book" "row" ["self", "side"] (spRow K) := w_row T
    have GO : Fn P w K mg base CX0 1 "other_side" ["side"] spOther := w_other T
    have GS : Mt P w K mg base CX0 1 "Order" "suits" ["self", "price"] (spSuits K) := w_suits T
    have GM : Fn P w K mg base CX0 3 "meet" ["book", "order", "one"] (spMeet K) := w_meet T
    have hr1 := hr.mono (j := 1) (by decide)
    have hr2 := hr.mono (j := 2) (by decide)
    refine ⟨_, pss_cons (ps_set (i := 2) scMatched.nd rfl (Or.inl rfl) (pe_lst pa_nil))
      (pss_cons (ps_while PassesOwn.never (pt_cmpR op_gt (pe_fld (pv 1) rfl) pe_int (nomark _))
        (pss_cons (ps_set (i := 3) scMatched.nd rfl (Or.inl rfl) (pe_mt (pv 0) GR hr2 pass0 (pa_cons (pe_fn GO hr1 rfl pass0 (pa_cons (pe_fld (pv 1) rfl) pa_nil)) pa_nil)))
        (pss_cons (ps_if (PW.pt (pw_or (pt_not (pt_truth (pv 3) (by intro _; rfl))) (pw_or1 (pt_not (pt_val (pe_mt (pv 1) GS hr1 pass0 (pa_cons (pe_fld (pe_ix ix_list (pv 3) pe_int (fun _ _ => rfl)) rfl) pa_nil))))))) (pss_one (ps_ret (pv 2))) pss_nil)
        (pss_one (ps_if (pt_cmpR op_eq (pe_fld (pe_ix ix_list (pv 3) pe_int (fun _ _ => rfl)) rfl) (pe_fld (pv 1) rfl) (nomark _))
          (pss_cons (ps_expr (pe_dpop1 (pe_fld (pv 0) rfl) (pe_fld (pe_ix ix_list (pv 3) pe_int (fun _ _ => rfl)) rfl) ⟨rfl, rfl, rfl, rfl⟩))
          (pss_one (ps_expr (pe_bm PySem.F.plainAttrs_list PySem.F.slot_list_append PySem.F.type_list_append mt_append (pv 2) (pa_cons (pe_tup (pa_cons pe_str (pa_cons (pe_fld (pe_ix ix_list (pv 3) pe_int (fun _ _ => rfl)) rfl) pa_nil))) pa_nil)))))
          (pss_one (ps_expr (pe_bm PySem.F.plainAttrs_list PySem.F.slot_list_append PySem.F.type_list_append mt_append (pv 2) (pa_cons (pe_fn GM hr rfl pass0 (pa_cons (pv 0) (pa_cons (pv 1) (pa_cons (pe_ix ix_list (pv 3) pe_int (fun _ _ => rfl)) pa_nil)))) pa_nil)))))))))
      (pss_one (ps_ret (pv 2)))), ?_⟩
    refine ⟨by show 0 ≤ sizeLine; decide, fun r hrn => ?_⟩
    have sm0 := same_new (o := .lst []) hrn
    have fin : ∀ H1 Bc oc evs ys, Mid K H b d r B o H1 Bc oc evs ys → step1 (Bc, oc) = none → Q (.ref r) H1 := fun H1 Bc oc evs ys M e => by
      have e2 := M.all
      rw [match_none e, List.append_nil] at e2
      exact k H1 r ys (by rw [e2]; exact M.hB) (by rw [e2]; exact M.hO) M.kd M.lst (by rw [e2]; exact M.pev)
    refine ⟨fun m σ H1 => ∃ Bc oc evs ys v, σ = [some (.ref b), some (.ref o.ad), some (.ref r), v] ∧ Mid K H b d r B o H1 Bc oc evs ys ∧ m = mu1 (Bc, oc),
      ⟨_, B, o, [], [], none, rfl, ⟨hB.same sm0, ho.same sm0, hok, hnew, hlen, Like.refl _, Kd.of sm0, upd_same, .nil, rfl, by
        show 0 + (o.rest.toNat + B.ords.length) ≤ 11000
        omega⟩, rfl⟩, ?_⟩
    rintro m σ H1 ⟨Bc, oc, evs, ys, v, rfl, M, rfl⟩
    have ea := M.like.ad
    refine ⟨_, rfl, ?_⟩
    rw [← ea]
    refine ro_rest T M.hO ⟨_, _, rfl, rfl, _, rfl, ?_⟩
    by_cases h0 : (0 : Int) < oc.rest
    · rw [decide_eq_true h0]
      refine iteT ⟨_, fun _ _ h => h, ?_⟩
      refine ⟨_, rfl, mB M.hB rfl ⟨_, rfl, ro_side T M.hO ⟨oc.buy, rfl, b, d, Bc, !oc.buy, rfl, M.hB.r, priced_of M.ok, M.len, fun H2 r2 s2 n2 e2 => ?_⟩⟩⟩
      have hB2 := M.hB.same s2
      have hO2 := M.hO.same s2
      have hr2' := s2 _ _ M.lst
      cases er : row Bc.ords (!oc.buy) with
      | nil =>
        rw [er] at e2
        refine ⟨_, rfl, false, .inl ⟨[], SqL.of e2, rfl⟩, iteT (iteT ⟨_, rfl, ?_⟩)⟩
        exact fin H2 Bc oc evs ys ⟨hB2, hO2, M.ok, M.new, M.len, M.like, M.kd.trans (Kd.of s2), hr2', evs_keep M.pev (.of s2), M.all, M.mu⟩ (step_stop1 er)
      | cons one rest =>
        rw [er] at e2
        have h1 := (row_mem (os := Bc.ords) (side := !oc.buy) (o := one)).mp (by rw [er]; exact List.mem_cons_self)
        have h1o := hB2.os one h1.1
        have hpr := (M.ok.os one h1.1).price
        have hop : optV one.price = .int one.pr := by rw [hpr]; rfl
        refine ⟨_, rfl, true, .inl ⟨_, SqL.of e2, rfl⟩, iteF ⟨_, rfl, mO hO2 rfl ⟨_, rfl, r2, _, _, _, rfl, rfl, SqL.of e2, atI_nat (j := 0) rfl, ro_price T h1o ⟨oc, one.pr, by rw [hop]; rfl, hO2, _, rfl, ?_⟩⟩⟩⟩
        cases es : oc.suits one.pr with
        | false =>
          refine iteT ⟨_, rfl, ?_⟩
          exact fin H2 Bc oc evs ys ⟨hB2, hO2, M.ok, M.new, M.len, M.like, M.kd.trans (Kd.of s2), hr2', evs_keep M.pev (.of s2), M.all, M.mu⟩ (step_stop2 er es)
        | true =>
          refine iteF ⟨_, rfl, r2, _, _, _, rfl, rfl, SqL.of e2, atI_nat (j := 0) rfl, ro_owner T h1o ⟨_, rfl, ro_owner T hO2 ⟨rfl, _, rfl, ?_⟩⟩⟩
          rw [dec_int]
          cases eo : (one.own == oc.own) with
          | true =>
            have eo' : one.own = oc.own := by simpa using eo
            have st := step_out (s := (Bc, oc)) h0 er es eo'
            have sk := step_ok (s := (Bc, oc)) M.ok st
            refine iteT ⟨_, rfl, rb_orders T hB2 ⟨d, rfl, .inl ⟨_, .inl hB2.dc⟩, _, rfl, r2, _, _, _, rfl, rfl, SqL.of e2, atI_nat (j := 0) rfl, ro_number T h1o ⟨_, Sum.inl one.num, .ref one.ad, hB2.dc, rfl, val_entry hB2.ndn h1.1, ?_⟩⟩⟩
            rw [drop_entry]
            have hB3 := hB2.dropped one.num
            have k3 : Kd d H2 (upd H2 d (.dK ((dropO Bc.ords one.num).map entry))) := Kd.dct sb_upd
            have n1 : r ≠ d := ne_of hr2' hB2.dc (by intro z; cases z)
            have n2 : r2 ≠ d := ne_of e2 hB2.dc (by intro z; cases z)
            have h1o3 := h1o.but (p := d) (H' := upd H2 d (.dK ((dropO Bc.ords one.num).map entry))) sb_upd (h1o.nd hB2)
            have hO3 := hO2.but (p := d) (H' := upd H2 d (.dK ((dropO Bc.ords one.num).map entry))) sb_upd (hO2.nd hB2)
            have hr3 : (upd H2 d (.dK ((dropO Bc.ords one.num).map entry))) r = some (.lst ys) := by rw [upd_ne n1]; exact hr2'
            have e3 : (upd H2 d (.dK ((dropO Bc.ords one.num).map entry))) r2 = some (.lst ((one :: rest).map refO)) := by rw [upd_ne n2]; exact e2
            refine ⟨_, rfl, .inl ⟨rfl, _, SqL.of hr3⟩, _, rfl, r2, _, _, _, rfl, rfl, SqL.of e3, atI_nat (j := 0) rfl, ro_number T h1o3 ⟨by show 2 ≤ sizeLine; decide, fun t ht => ⟨r, ys, .ref t, rfl, rfl, ?_, ?_, ?_⟩⟩⟩
            · rw [upd_ne (ne_of_none hr3 ht)]
              exact hr3
            · exact lenOk M
            · have et : (upd (upd H2 d (.dK ((dropO Bc.ords one.num).map entry))) t (.tup (evV (.out one.num)))) t = some (.tup (evV (.out one.num))) := upd_same
              have hr4 : (upd (upd H2 d (.dK ((dropO Bc.ords one.num).map entry))) t (.tup (evV (.out one.num)))) r = some (.lst ys) := by
                rw [upd_ne (ne_of_none hr3 ht)]
                exact hr3
              have sm4 := same_new (o := .tup (evV (.out one.num))) ht
              have k4 : Kd d H (upd (upd H2 d (.dK ((dropO Bc.ords one.num).map entry))) t (.tup (evV (.out one.num)))) := ((M.kd.trans (Kd.of s2)).trans k3).trans (Kd.of sm4)
              have tk : TupKeep H1 (upd (upd H2 d (.dK ((dropO Bc.ords one.num).map entry))) t (.tup (evV (.out one.num)))) := ((TupKeep.of s2).trans (TupKeep.kd k3 hB2.hd)).trans (.of sm4)
              exact ⟨_, sk.mu, _, oc, evs ++ [.out one.num], ys ++ [.ref t], some (.ref r2), rfl,
                ⟨(hB3.same sm4).lst hr4, (hO3.same sm4).lst hr4, sk.ok, M.new.within sk.within sk.like, Nat.le_trans sk.len M.len, M.like, Kd.lst' k4 hrn hr4, upd_same,
                  paired_snoc (evs_keep M.pev (tk.trans (.lst hr4))) ⟨t, rfl, TupKeep.lst hr4 _ _ et⟩, by rw [M.all, match_step M.ok st, List.append_assoc]; rfl, by
                    have q : mu1 ({ Bc with ords := dropO Bc.ords one.num }, oc) < mu1 (Bc, oc) := sk.mu
                    have := M.mu
                    rw [List.length_append]
                    show evs.length + 1 + _ ≤ _
                    omega⟩, rfl⟩
          | false =>
            have eo' : ¬ one.own = oc.own := by simpa using eo
            have st := step_trade (s := (Bc, oc)) h0 er es eo'
            have sk := step_ok (s := (Bc, oc)) M.ok st
            have n1 : r ≠ d := ne_of hr2' hB2.dc (by intro z; cases z)
            refine iteF ⟨_, rfl, .inl ⟨rfl, _, SqL.of hr2'⟩, _, rfl, _, rfl, _, rfl, r2, _, _, _, rfl, rfl, SqL.of e2, atI_nat (j := 0) rfl, b, d, Bc, oc, one, rfl, hB2, hO2, M.new, h1.1, hpr, M.len, fun H3 t hB3 hO3 k3 et => ?_⟩
            have hr4 : H3 r = some (.lst ys) := k3 r _ hr2' rfl n1
            have k4 : Kd d H H3 := (M.kd.trans (Kd.of s2)).trans k3
            have tk : TupKeep H1 H3 := (TupKeep.of s2).trans (TupKeep.kd k3 hB2.hd)
            refine ⟨r, ys, .ref t, rfl, rfl, hr4, lenOk M, ?_⟩
            exact ⟨_, sk.mu, _, _, evs ++ [.trade one.num one.pr (cut oc one)], ys ++ [.ref t], some (.ref r2), rfl,
              ⟨hB3.lst hr4, OrdAt.lst (o := afterMeetO oc one) hO3 hr4, sk.ok, M.new.within sk.within sk.like, Nat.le_trans sk.len M.len, sk.like.trans M.like, Kd.lst' k4 hrn hr4, upd_same,
                paired_snoc (evs_keep M.pev (tk.trans (.lst hr4))) ⟨t, rfl, TupKeep.lst hr4 _ _ et⟩, by rw [M.all, match_step M.ok st, List.append_assoc]; rfl, by
                  have q : mu1 (afterMeet Bc oc one, afterMeetO oc one) < mu1 (Bc, oc) := sk.mu
                  have := M.mu
                  rw [List.length_append]
                  show evs.length + 1 + _ ≤ _
                  omega⟩, rfl⟩
    · rw [decide_eq_false h0]
      exact iteF ⟨_, rfl, fin H1 Bc oc evs ys M (step_stop0 h0)⟩
  · obtain ⟨fd, F⟩ := T.f_matched
    exact F.kp
def wayV (w : Way) : V := .str w.str
def spPlace (K : PySem.W.Frag) : Sp := fun vs H Q E => ∃ (b d : Addr) (B : Bk) (owner : Int) (side : Str) (price : Option Int) (many : Int) (shows : Option Int) (way : Str),
  vs = [.ref b, .int owner, .str side, optV price, .int many, optV shows, .str way] ∧ BookAt K H b d B ∧ BkOk B ∧ B.ords.length ≤ 900 ∧
  (goodO side price many shows way = false → ∀ H', L2.Same H H' → E (.ref (He.ga K "BadOrder")) none H') ∧
  (goodO side price many shows way = true → B.calling = true → way ≠ ("rest" : Str) → ∀ H', L2.Same H H' → E (.ref (He.ga K "NotNow")) none H') ∧
  (∀ buy wy, side = sideStr buy → way = wy.str → Parts price many shows wy → (B.calling = true → wy = .rest) → ∀ H' t r ys ad, H ad = none →
    BookAt K H' b d (placeB B (newOrd B ad owner buy price many shows) wy).2 → Kd d H H' → H' t = some (.tup [.int B.many, .ref r]) → H' r = some (.lst ys) → Paired (EvAt H') (placeB B (newOrd B ad owner buy price many shows) wy).1 ys → Q (.ref t) H')
theorem scPlace : FnScope ["book", "owner", "side", "price", "many", "shows", "way", "order", "told"] ["book", "owner", "side", "price", "many", "shows", "way"] (defScope s_place) := ⟨rfl, rfl, rfl, by decide +kernel, rfl, by decide +kernel, by decide +kernel⟩
theorem ne_str (a b : Str) : (!decide (V.str a = V.str b)) = !decide (a = b) := by rw [dec_str]
theorem w_place (T : Tx K mg) : Fn P w K mg base (L2.CX P w) 5 "place" ["book", "owner", "side", "price", "many", "shows", "way"] (spPlace K) := by
  refine ⟨okX T.f_place scPlace (fun _ _ _ _ _ _ us hl => match us, hl with | [_, _, _, _, _, _, _], _ => rfl) (fun vs H Q E h => ?_) (fun cdv A outer s H vs Q E hr h => ?_), T.g_place, ?_⟩
  · obtain ⟨b, d, B, owner, side, price, many, shows, way, rfl, _⟩ := h
    rfl
  · obtain ⟨b, d, B, owner, side, price, many, shows, way, rfl, hB, hok, hlen, kbad, know, kok⟩ := h
    have GL : Fn P w K mg base (L2.CX P w) 2 "look_order" ["side", "price", "many", "shows", "way"] (spLook K) := w_look T
    have GC : Fn P w K mg base CX0 3 "can_fill" ["book", "order"] (spCanFill K) := w_can_fill T
    have GM : Fn P w K mg base CX0 4 "matched" ["book", "order"] (spMatched K) := w_matched T
    have GP : Mt P w K mg base CX0 2 "Book" "put" ["self", "order"] (spPut K) := w_put T
    have GN : Cn P w K mg base CX0 1 "Order" ["self", "number", "owner", "side", "price", "left", "shows"] (spOInit K) := w_O_init T
    obtain ⟨xP, kP, bP, tP⟩ := T.e_NotNow
    have hr2 := hr.mono (j := 2) (by decide)
    have hr3 := hr.mono (j := 3) (by decide)
    refine ⟨_, pss_cons (ps_expr (pe_fn GL hr2 rfl (passes_call (takes_of rfl rfl rfl rfl) (fun _ _ _ _ h => h)) (pa_cons (pv 2) (pa_cons (pv 3) (pa_cons (pv 4) (pa_cons (pv 5) (pa_cons (pv 6) pa_nil)))))))
      (pss_cons (ps_if (PW.pt (pw_and (pt_val (pe_fld (pv 0) rfl)) (pw_and1 (pt_cmpR op_ne (pv 6) (pe_gs T.k_REST (by rfl)) (nomark _)))))
        (pss_one (ps_raise rfl (takes_of rfl rfl rfl rfl) (pmk_own PySem.F.excBase_ValueError xP T.g_NotNow kP (raises_own bP tP) rfl))) pss_nil)
      (pss_cons (ps_set (i := 7) scPlace.nd rfl (Or.inl rfl) (pe_cn GN hr2 rfl pass0 (pa_cons (pe_fld (pv 0) rfl) (pa_cons (pv 1) (pa_cons (pv 2) (pa_cons (pv 3) (pa_cons (pv 4) (pa_cons (pv 5) pa_nil))))))))
      (pss_cons (ps_fld (pv 0) (pe_op op_add (pe_fld (pv 0) rfl) pe_int) rfl)
      (pss_cons (ps_set (i := 8) scPlace.nd rfl (Or.inl rfl) (pe_lst pa_nil))
      (pss_cons (ps_if (PW.pt (pw_and (pt_not (pt_val (pe_fld (pv 0) rfl))) (pw_and1 (PW.pt (pw_or (pt_cmpR op_ne (pv 6) pe_str (nomark _)) (pw_or1 (pt_val (pe_fn GC hr3 rfl pass0 (pa_cons (pv 0) (pa_cons (pv 7) pa_nil))))))))))
        (pss_one (ps_set (i := 8) scPlace.nd rfl (Or.inl rfl) (pe_fn GM hr rfl pass0 (pa_cons (pv 0) (pa_cons (pv 7) pa_nil))))) pss_nil)
      (pss_cons (ps_if (PW.pt (pw_and (pt_cmpR op_eq (pv 6) (pe_gs T.k_REST (by rfl)) (nomark _)) (pw_and1 (pt_cmpR op_gt (pe_fld (pv 7) rfl) pe_int (nomark _)))))
        (pss_one (ps_expr (pe_mt (pv 0) GP hr2 pass0 (pa_cons (pv 7) pa_nil)))) pss_nil)
      (pss_one (ps_ret (pe_tup (pa_cons (pe_fld (pv 7) rfl) (pa_cons (pv 8) pa_nil))))))))))), ?_⟩
    refine ⟨_, rfl, _, rfl, _, rfl, _, rfl, _, rfl, side, price, many, shows, way, rfl, fun hg H1 s1 => ?_, fun hg H1 s1 => kbad hg H1 s1⟩
    have hgs : goodSide side = true ∧ goodWay way = true := by
      have e := hg
      rw [goodO_eq] at e
      simp only [Bool.and_eq_true] at e
      exact ⟨e.1.1.1.1, e.1.1.1.2⟩
    obtain ⟨buy, rfl⟩ := side_of hgs.1
    obtain ⟨wy, rfl⟩ := way_of hgs.2
    have g := goodO_parts.mp hg
    have hB1 := hB.same s1
    refine ⟨_, rfl, rb_calling T hB1 ⟨_, rfl, ?_⟩⟩
    have tail : (B.calling = true → wy = .rest) → (tSeq (tAsg (tMake (CO K) (spOInit K) [] E0 (tCons (tFld K (tVar 0) "many") (tCons (tVar 1) (tCons (tVar 2) (tCons (tVar 3) (tCons (tVar 4) (tCons (tVar 5) tNil))))))) (gName 7))
        (tSeq (sFld K (tVar 0) (tOp (rI0 fun i j => .int (i + j)) (tFld K (tVar 0) "many") (tC (.int 1))) "many")
        (tSeq (tAsg (tLst tNil) (gName 8))
        (tSeq (tIfS (tAnd (tNot (tB (tFld K (tVar 0) "calling"))) (tOr (tTest (tOp rNe (tVar 6) (tC (.str "whole")))) (tB (tCall (spCanFill K) [] E0 (tCons (tVar 0) (tCons (tVar 7) tNil)))))) (tAsg (tCall (spMatched K) [] E0 (tCons (tVar 0) (tCons (tVar 7) tNil))) (gName 8)) tNext)
        (tSeq (tIfS (tAnd (tTest (tOp rEq (tVar 6) (tC (.str "rest")))) (tTest (tOp (rI0 fun i j => .bl (decide (j < i))) (tFld K (tVar 7) "rest") (tC (.int 0))))) (tDrop (tMeth (CB K) "put" (spPut K) [] E0 (tVar 0) (tCons (tVar 7) tNil))) tNext)
        (tRet (tTup (tCons (tFld K (tVar 7) "number") (tCons (tVar 8) tNil))))))))) { nx := fun _ H' => Q .non H', rt := Q }
        [some (.ref b), some (.int owner), some (.str (sideStr buy)), some (optV price), some (.int many), some (optV shows), some (.str wy.str), none, none] H1 := by
      intro hcall
      refine ⟨_, rfl, rb_many T hB1 ⟨_, rfl, _, rfl, _, rfl, _, rfl, _, rfl, fun x dx nx ndx nex => ⟨x, dx, B.many, owner, buy, price, many, shows, rfl, upd_same, fun H2 hO2 sb2 => ⟨rfl, ?_⟩⟩⟩⟩
      have sA : L2.Same H1 H2 := L2.Same.made nx ndx (fun b' o' e n => sb2 b' o' n e)
      have hB2 := hB1.same sA
      have hO2 : OrdAt K H2 (newOrd B x owner buy price many shows) := hO2
      have hok1 := many_ok hok
      have hnew : New B.ords (newOrd B x owner buy price many shows) := fun y hy => by
        refine ⟨fun z => ?_, fun z => ?_⟩
        · obtain ⟨dy, e⟩ := hB1.os y hy
          have z : y.ad = x := z
          rw [z, nx] at e
          cases e
        · have := (hok.os y hy).num
          have z : y.num = B.many := z
          omega
      have rest : ∀ (H6 : Hp) (r : Addr) (ys : List V) (evs : List Ev) (Bm : Bk) (om : Ord), BookAt K H6 b d Bm → OrdAt K H6 om → Kd d H1 H6 → H6 r = some (.lst ys) → Paired (EvAt H6) evs ys → New Bm.ords om → Bm.ords.length ≤ 1000 →
          Like om (newOrd B x owner buy price many shows) → placeB B (newOrd B x owner buy price many shows) wy = (evs, if wy = .rest ∧ 0 < om.rest then Bm.put om else Bm) →
          (tSeq (tIfS (tAnd (tTest (tOp rEq (tVar 6) (tC (.str "rest")))) (tTest (tOp (rI0 fun i j => .bl (decide (j < i))) (tFld K (tVar 7) "rest") (tC (.int 0))))) (tDrop (tMeth (CB K) "put" (spPut K) [] E0 (tVar 0) (tCons (tVar 7) tNil))) tNext)
          (tRet (tTup (tCons (tFld K (tVar 7) "number") (tCons (tVar 8) tNil))))) { nx := fun _ H' => Q .non H', rt := Q }
          [some (.ref b), some (.int owner), some (.str (sideStr buy)), some (optV price), some (.int many), some (optV shows), some (.str wy.str), some (.ref x), some (.ref r)] H6 := by
        intro H6 r ys evs Bm om hB6 hO6 k6 er pe hn6 hl6 lk eq
        have ea : om.ad = x := lk.ad
        have fin : ∀ H7 Bf, BookAt K H7 b d Bf → (∃ y, y.ad = x ∧ y.num = B.many ∧ OrdAt K H7 y) → Kd d H6 H7 → placeB B (newOrd B x owner buy price many shows) wy = (evs, Bf) →
            (tRet (tTup (tCons (tFld K (tVar 7) "number") (tCons (tVar 8) tNil)))) { nx := fun _ H' => Q .non H', rt := Q }
            [some (.ref b), some (.int owner), some (.str (sideStr buy)), some (optV price), some (.int many), some (optV shows), some (.str wy.str), some (.ref x), some (.ref r)] H7 := by
          rintro H7 Bf hB7 ⟨y, ya, yn, hy⟩ k7 eq7
          refine ⟨_, rfl, ?_⟩
          rw [← ya]
          refine ro_number T hy ⟨_, rfl, by show 2 ≤ sizeLine; decide, fun t ht => ?_⟩
          have sm := same_new (o := .tup [V.int y.num, V.ref r]) ht
          have kk : Kd d H (upd H7 t (.tup [V.int y.num, V.ref r])) := (((Kd.of s1).trans k6).trans k7).trans (Kd.of sm)
          refine kok buy wy rfl rfl g hcall _ t r ys x (s1.free nx) (by rw [eq7]; exact hB7.same sm) kk ?_ ?_ ?_
          · rw [upd_same, yn]
          · exact sm _ _ (k7 r _ er rfl (ne_of er hB6.dc (by intro z; cases z)))
          · rw [eq7]
            exact evs_keep pe ((TupKeep.kd k7 hB6.hd).trans (.of sm))
        refine ⟨_, rfl, rfl, _, rfl, ?_⟩
        rw [dec_str, way_rest]
        by_cases hw : wy = .rest
        · rw [decide_eq_true hw]
          refine iteT ⟨_, rfl, ?_⟩
          rw [← ea]
          refine ro_rest T hO6 ⟨_, _, rfl, rfl, _, rfl, ?_⟩
          by_cases h0 : (0 : Int) < om.rest
          · rw [decide_eq_true h0]
            refine iteT ⟨_, rfl, mB hB6 rfl ⟨_, rfl, b, d, Bm, om, rfl, hB6, hO6, .inr hn6, hl6, fun H7 hB7 hx fr => ?_⟩⟩
            obtain ⟨y, ya, yn, yp, hy⟩ := hx
            rw [ea]
            refine fin H7 _ hB7 ⟨y, ya.trans ea, yn.trans lk.num, hy⟩ (fun a v h i n => fr a v h ?_ n ?_) (by rw [eq, if_pos ⟨hw, h0⟩])
            · intro z
              obtain ⟨dx, e⟩ := hB6.bk
              rw [z, e] at h
              cases h
              cases i
            · intro z
              obtain ⟨dx, e⟩ := hO6
              rw [z, e] at h
              cases h
              cases i
          · rw [decide_eq_false h0, ea]
            exact iteF (fin H6 Bm hB6 ⟨om, ea, lk.num, hO6⟩ (Kd.refl _ _) (by rw [eq, if_neg fun z => h0 z.2]))
        · rw [decide_eq_false hw]
          exact iteF (iteF (fin H6 Bm hB6 ⟨om, ea, lk.num, hO6⟩ (Kd.refl _ _) (by rw [eq, if_neg fun z => hw z.1])))
      refine ⟨_, rfl, rb_many T hB2 ⟨_, _, rfl, rfl, _, rfl, wb_many T hB2 fun H3 hB3 s3 => ?_⟩⟩
      have hO3 := hO2.but s3 (hO2.nb hB2)
      have k3 : Kd d H1 H3 := (Kd.of sA).trans (let ⟨_, e⟩ := hB2.bk; Kd.ins e s3)
      refine ⟨by show 0 ≤ sizeLine; decide, fun r0 hr0 => ?_⟩
      have sm4 := same_new (o := .lst []) hr0
      have hB4 := hB3.same sm4
      have hO4 := hO3.same sm4
      have k4 := k3.trans (Kd.of (d := d) sm4)
      have whole : ∀ c, (!B.calling && (decide (wy ≠ .whole) || canFill B.ords (newOrd B x owner buy price many shows))) = c → placeB B (newOrd B x owner buy price many shows) wy =
          ((if c = true then matchAll ({ B with many := B.many + 1 }, newOrd B x owner buy price many shows) else ([], ({ B with many := B.many + 1 }, newOrd B x owner buy price many shows))).1,
            if wy = .rest ∧ 0 < (if c = true then matchAll ({ B with many := B.many + 1 }, newOrd B x owner buy price many shows) else ([], ({ B with many := B.many + 1 }, newOrd B x owner buy price many shows))).2.2.rest then
              (if c = true then matchAll ({ B with many := B.many + 1 }, newOrd B x owner buy price many shows) else ([], ({ B with many := B.many + 1 }, newOrd B x owner buy price many shows))).2.1.put
                (if c = true then matchAll ({ B with many := B.many + 1 }, newOrd B x owner buy price many shows) else ([], ({ B with many := B.many + 1 }, newOrd B x owner buy price many shows))).2.2
            else (if c = true then matchAll ({ B with many := B.many + 1 }, newOrd B x owner buy price many shows) else ([], ({ B with many := B.many + 1 }, newOrd B x owner buy price many shows))).2.1) := fun c e => by
        subst e
        rfl
      refine ⟨_, rfl, rb_calling T hB4 ⟨_, rfl, ?_⟩⟩
      cases hc : B.calling with
      | true =>
        refine iteF (iteF ?_)
        exact rest _ r0 [] [] { B with many := B.many + 1 } (newOrd B x owner buy price many shows) hB4 hO4 k4 upd_same .nil hnew (by show B.ords.length ≤ 1000; omega) (Like.refl _) (whole false (by rw [hc]; rfl))
      | false =>
        refine iteT ⟨_, rfl, rfl, _, rfl, ?_⟩
        rw [ne_str, way_whole]
        have mok := match_ok (s := ({ B with many := B.many + 1 }, newOrd B x owner buy price many shows)) hok1
        by_cases hw : wy = .whole
        · rw [decide_eq_true hw]
          refine iteF ⟨_, rfl, _, rfl, b, d, { B with many := B.many + 1 }, newOrd B x owner buy price many shows, rfl, hB4, priced_of hok1, by show B.ords.length ≤ 1000; omega, hO4, fun H5 s5 => ⟨_, rfl, ?_⟩⟩
          cases hcf : canFill ({ B with many := B.many + 1 } : Bk).ords (newOrd B x owner buy price many shows) with
          | true =>
            have hcf : canFill B.ords (newOrd B x owner buy price many shows) = true := hcf
            exact iteT ⟨_, rfl, _, rfl, b, d, { B with many := B.many + 1 }, newOrd B x owner buy price many shows, rfl, hB4.same s5, hO4.same s5, hok1, hnew, by show B.ords.length ≤ 1000; omega, g.m2, fun H6 r6 ys6 hB6 hO6 k6 e6 p6 =>
            rest H6 r6 ys6 _ _ _ hB6 hO6 ((k4.trans (Kd.of s5)).trans k6) e6 p6 (hnew.within mok.within mok.like) (Nat.le_trans mok.len (by show B.ords.length ≤ 1000; omega)) mok.like (whole true (by rw [hc, hcf]; simp))⟩
          | false =>
            have hcf : canFill B.ords (newOrd B x owner buy price many shows) = false := hcf
            exact iteF (rest H5 r0 [] [] { B with many := B.many + 1 } (newOrd B x owner buy price many shows) (hB4.same s5) (hO4.same s5) (k4.trans (Kd.of s5)) (s5 _ _ upd_same) .nil hnew (by show B.ords.length ≤ 1000; omega) (Like.refl _) (whole false (by rw [hc, hcf]; simp [hw])))
        · rw [decide_eq_false hw]
          exact iteT (iteT ⟨_, rfl, _, rfl, b, d, { B with many := B.many + 1 }, newOrd B x owner buy price many shows, rfl, hB4.same (L2.Same.refl _), hO4.same (L2.Same.refl _), hok1, hnew, by show B.ords.length ≤ 1000; omega, g.m2, fun H6 r6 ys6 hB6 hO6 k6 e6 p6 =>
            rest H6 r6 ys6 _ _ _ hB6 hO6 ((k4.trans (Kd.of (L2.Same.refl _))).trans k6) e6 p6 (hnew.within mok.within mok.like) (Nat.le_trans mok.len (by show B.ords.length ≤ 1000; omega)) mok.like (whole true (by rw [hc]; simp [hw]))⟩)
    cases hc : B.calling with
    | false => exact iteF (iteF (tail (by rw [hc]; intro z; cases z)))
    | true =>
      refine iteT ⟨_, rfl, rfl, _, rfl, ?_⟩
      rw [ne_str, way_rest]
      by_cases hw : wy = .rest
      · rw [decide_eq_true hw]
        exact iteF (tail fun _ => hw)
      · rw [decide_eq_false hw]
        exact iteT (know hg hc (fun z => hw (wayStr_inj (a := wy) (b := .rest) z)) H1 s1)
  · obtain ⟨fd, F⟩ := T.f_place
    exact F.kp
end
end FB

set_option maxRecDepth 100000
set_option maxHeartbeats 4000000
/-! The walks of cancel, change and of fairbook/calls.py. -/
namespace FB
open PySem PySem.Spec PyProof.Rows L2
section
variable {P : Program} {w : World} {K : PySem.W.Frag} {mg : Str → Option Value} {base : Heap}
def spCancel (K : PySem.W.Frag) : Sp := fun vs H Q E => ∃ (b d : Addr) (B : Bk) (n : Int), vs = [.ref b, .int n] ∧ BookAt K H b d B ∧
  (∀ o, findO B.ords n = some o → ∀ H', BookAt K H' b d (cancelB B n) → Kd d H H' → Q (.int o.rest) H') ∧ (findO B.ords n = none → E (.ref (He.ga K "NotThere")) none H)
theorem scCancel : FnScope ["book", "number", "order"] ["book", "number"] (defScope s_cancel) := ⟨rfl, rfl, rfl, by decide +kernel, rfl, by decide +kernel, by decide +kernel⟩
theorem w_cancel (T : Tx K mg) : Fn P w K mg base (L2.CX P w) 2 "cancel" ["book", "number"] (spCancel K) := by
  refine ⟨okX T.f_cancel scCancel (fun _ _ _ _ _ _ us hl => match us, hl with | [_, _], _ => rfl) (fun vs H Q E h => ?_) (fun cdv A outer s H vs Q E hr h => ?_), T.g_cancel, ?_⟩
  · obtain ⟨b, d, B, n, rfl, _⟩ := h
    rfl
  · obtain ⟨b, d, B, n, rfl, hB, k1, k2⟩ := h
    have GN : Mt P w K mg base (L2.CX P w) 1 "Book" "need" ["self", "number"] (spNeed K) := w_need T
    refine ⟨_, pss_cons (ps_set (i := 2) scCancel.nd rfl (Or.inl rfl) (pe_mt (pv 0) GN hr (passes_call (takes_of rfl rfl rfl rfl) (fun _ _ _ _ h => h)) (pa_cons (pv 1) pa_nil)))
      (pss_cons (ps_expr (pe_dpop1 (pe_fld (pv 0) rfl) (pv 1) ⟨rfl, rfl, rfl, rfl⟩)) (pss_one (ps_ret (pe_fld (pv 2) rfl)))), ?_⟩
    refine ⟨_, rfl, mB hB rfl ⟨_, rfl, b, d, B, n, rfl, hB, fun o e => ?_, k2⟩⟩
    obtain ⟨ho, hn⟩ := find_some e
    subst hn
    have hO := hB.os o ho
    refine ⟨_, rfl, rb_orders T hB ⟨d, rfl, .inl ⟨_, .inl hB.dc⟩, _, rfl, _, Sum.inl o.num, .ref o.ad, hB.dc, rfl, val_entry hB.ndn ho, ?_⟩⟩
    rw [drop_entry]
    exact ⟨_, rfl, ro_rest T (hO.but sb_upd (hO.nd hB)) (k1 o e _ (hB.dropped o.num) (Kd.dct sb_upd))⟩
  · obtain ⟨fd, F⟩ := T.f_cancel
    exact F.kp
def spChange (K : PySem.W.Frag) : Sp := fun vs H Q E => ∃ (b d : Addr) (B : Bk) (n m : Int), vs = [.ref b, .int n, .int m] ∧ BookAt K H b d B ∧ B.ords.length ≤ 1000 ∧
  (∀ o, findO B.ords n = some o → isCount m = true → ∀ H', BookAt K H' b d (changeB B o m) → Kd d H H' → Q .non H') ∧ (∀ o, findO B.ords n = some o → isCount m = false → E (.ref (He.ga K "BadOrder")) none H) ∧ (findO B.ords n = none → E (.ref (He.ga K "NotThere")) none H)
theorem scChange : FnScope ["book", "number", "many", "order"] ["book", "number", "many"] (defScope s_change) := ⟨rfl, rfl, rfl, by decide +kernel, rfl, by decide +kernel, by decide +kernel⟩
theorem w_change (T : Tx K mg) : Fn P w K mg base (L2.CX P w) 3 "change" ["book", "number", "many"] (spChange K) := by
  refine ⟨okX T.f_change scChange (fun _ _ _ _ _ _ us hl => match us, hl with | [_, _, _], _ => rfl) (fun vs H Q E h => ?_) (fun cdv A outer s H vs Q E hr h => ?_), T.g_change, ?_⟩
  · obtain ⟨b, d, B, n, m, rfl, _⟩ := h
    rfl
  · obtain ⟨b, d, B, n, m, rfl, hB, hlen, k1, k2, k3⟩ := h
    have GN : Mt P w K mg base (L2.CX P w) 1 "Book" "need" ["self", "number"] (spNeed K) := w_need T
    have GC : Fn P w K mg base CX0 1 "is_count" ["number"] spCount := w_count T
    have GP : Mt P w K mg base CX0 2 "Book" "put" ["self", "order"] (spPut K) := w_put T
    have hr1 := hr.mono (j := 1) (by decide)
    obtain ⟨xP, kP, bP, tP⟩ := T.e_BadOrder
    refine ⟨_, pss_cons (ps_set (i := 3) scChange.nd rfl (Or.inl rfl) (pe_mt (pv 0) GN hr1 (passes_call (takes_of rfl rfl rfl rfl) (fun _ _ _ _ h => h)) (pa_cons (pv 1) pa_nil)))
      (pss_cons (ps_if (pt_not (pt_val (pe_fn GC hr1 rfl pass0 (pa_cons (pv 2) pa_nil)))) (pss_one (ps_raise rfl (takes_of rfl rfl rfl rfl) (pmk_own PySem.F.excBase_ValueError xP T.g_BadOrder kP (raises_own bP tP) rfl))) pss_nil)
      (pss_one (ps_if (pt_cmpR op_gt (pv 2) (pe_fld (pv 3) rfl) (nomark _))
        (pss_cons (ps_fld (pv 3) (pv 2) rfl) (pss_one (ps_expr (pe_mt (pv 0) GP hr pass0 (pa_cons (pv 3) pa_nil)))))
        (pss_cons (ps_fld (pv 3) (pv 2) rfl) (pss_one (ps_fld (pv 3) (pe_callB (call_min2 rfl) (by rfl) T.z_min boot_min (pa_cons (pe_fld (pv 3) rfl) (pa_cons (pv 2) pa_nil))) rfl)))))), ?_⟩
    refine ⟨_, rfl, mB hB rfl ⟨_, rfl, b, d, B, n, rfl, hB, fun o e => ?_, k3⟩⟩
    obtain ⟨ho, hn⟩ := find_some e
    have hO := hB.os o ho
    have hm : InOrNew B.ords o := .inl ⟨o, ho, rfl, rfl⟩
    refine ⟨_, rfl, m, rfl, _, rfl, ?_⟩
    cases hc : isCount m with
    | false => exact iteT (k2 o e hc)
    | true =>
      refine iteF ⟨_, rfl, _, rfl, ro_rest T hO ⟨_, _, rfl, rfl, _, rfl, ?_⟩⟩
      by_cases h0 : o.rest < m
      · rw [decide_eq_true h0]
        refine iteT ⟨_, rfl, _, rfl, wo_rest T hO fun H1 h1 s1 => ?_⟩
        have hB1 := hB.chg hO hm h1 s1 rfl rfl
        refine ⟨_, rfl, mB hB1 rfl ⟨_, rfl, b, d, _, { o with rest := m }, rfl, hB1, h1, hm.upd rfl rfl, by rw [updO_len]; exact hlen, fun H2 hB2 hx fr => ?_⟩⟩
        refine k1 o e hc H2 ?_ ((Kd.ord hO s1).trans fun a v h i n => fr a v h ?_ n ?_)
        · unfold changeB
          rw [if_pos h0]
          exact hB2
        · intro z
          obtain ⟨dx, e⟩ := hB1.bk
          rw [z, e] at h
          cases h
          cases i
        · intro z
          obtain ⟨dx, e⟩ := h1
          have e : H1 o.ad = _ := e
          have z : a = o.ad := z
          rw [z, e] at h
          cases h
          cases i
      · rw [decide_eq_false h0]
        refine iteF ⟨_, rfl, _, rfl, wo_rest T hO fun H1 h1 s1 => ⟨_, rfl, ro_part T h1 ⟨_, rfl, _, _, rfl, ⟨_, rfl, wo_part T h1 fun H2 h2 s2 => ?_⟩⟩⟩⟩
        have hB1 := hB.chg hO hm h1 s1 rfl rfl
        have hB2 := hB1.chg h1 (hm.upd rfl rfl) h2 s2 rfl rfl
        refine k1 o e hc H2 ?_ ((Kd.ord hO s1).trans (Kd.ord h1 s2))
        unfold changeB
        rw [if_neg h0]
        have e2 := updO_upd (os := B.ords) (o1 := { o with rest := m }) (o2 := { o with rest := m, part := imin o.part m }) rfl
        rw [← e2]
        exact hB2
  · obtain ⟨fd, F⟩ := T.f_change
    exact F.kp
def spCall (K : PySem.W.Frag) : Sp := fun vs H Q E => ∃ (b d : Addr) (B : Bk), vs = [.ref b] ∧ BookAt K H b d B ∧ (B.calling = false → ∀ H', BookAt K H' b d { B with calling := true } → Kd d H H' → Q .non H') ∧ (B.calling = true → E (.ref (He.ga K "NotNow")) none H)
theorem scCall : FnScope ["book"] ["book"] (defScope s_call) := ⟨rfl, rfl, rfl, by decide +kernel, rfl, by decide +kernel, by decide +kernel⟩
theorem w_call (T : Tx K mg) : Fn P w K mg base (L2.CX P w) 1 "call" ["book"] (spCall K) := by
  refine ⟨okX T.f_call scCall (fun _ _ _ _ _ _ us hl => match us, hl with | [_], _ => rfl) (fun vs H Q E h => ?_) (fun cdv A outer s H vs Q E hr h => ?_), T.g_call, ?_⟩
  · obtain ⟨b, d, B, rfl, _⟩ := h
    rfl
  · obtain ⟨b, d, B, rfl, hB, k1, k2⟩ := h
    obtain ⟨xP, kP, bP, tP⟩ := T.e_NotNow
    refine ⟨_, pss_cons (ps_if (pt_val (pe_fld (pv 0) rfl)) (pss_one (ps_raise rfl (takes_of rfl rfl rfl rfl) (pmk_own PySem.F.excBase_ValueError xP T.g_NotNow kP (raises_own bP tP) rfl))) pss_nil)
      (pss_one (ps_fld (pv 0) pe_bl rfl)), ?_⟩
    refine ⟨_, rfl, rb_calling T hB ⟨_, rfl, ?_⟩⟩
    cases hc : B.calling with
    | true => exact iteT (k2 hc)
    | false => exact iteF ⟨_, rfl, wb_calling T hB fun H1 hB1 s1 => k1 hc H1 hB1 (let ⟨_, e⟩ := hB.bk; Kd.ins e s1)⟩
  · obtain ⟨fd, F⟩ := T.f_call
    exact F.kp
def spWanted (K : PySem.W.Frag) : Sp := fun vs H Q _ => ∃ (b d : Addr) (B : Bk) (side : Bool) (p : Int), vs = [.ref b, .str (sideStr side), .int p] ∧ BookR K H b d B ∧ Priced B.ords ∧ B.ords.length ≤ 1000 ∧ ∀ H', L2.Same H H' → Q (.int (wanted B.ords side p)) H'
theorem scWanted : FnScope ["book", "side", "price", "order"] ["book", "side", "price"] (defScope s_wanted) := ⟨rfl, rfl, rfl, by decide +kernel, rfl, by decide +kernel, by decide +kernel⟩
theorem w_wanted (T : Tx K mg) : Fn P w K mg base CX0 3 "wanted" ["book", "side", "price"] (spWanted K) := by
  refine ⟨ok0 T.f_wanted scWanted (fun _ _ _ _ _ _ us hl => match us, hl with | [_, _, _], _ => rfl) (fun vs H Q E h => ?_) (fun cdv A outer s H vs Q E hr h => ?_), T.g_wanted, ?_⟩
  · obtain ⟨b, d, B, side, p, rfl, _⟩ := h
    rfl
  · obtain ⟨b, d, B, side, p, rfl, hB, hpr, hlen, k⟩ := h
    have GR : Mt P w K mg base CX0 2 "Book" "row" ["self", "side"] (spRow K) := w_row T
    have GS : Mt P w K mg base CX0 1 "Order" "suits" ["self", "price"] (spSuits K) := w_suits T
    have hr1 := hr.mono (j := 1) (by decide)
    refine ⟨_, pss_one (ps_ret (pe_callB (cr_sum rfl) (by rfl) T.z_sum boot_sum (pa_cons
      (pe_lc (own := [("order", 3)]) (g := gName 3) (tt := tB (tMeth (CO K) "suits" (spSuits K) [] E0 (tVar 3) (tCons (tVar 2) tNil))) (te := tFld K (tVar 3) "rest") rfl scWanted.nd (pi_list (pe_mt (pv 0) GR hr pass0 (pa_cons (pv 1) pa_nil)))
        (blkOk_by (N := ["book", "side", "price", "order"]) (sc := defScope s_wanted) (by decide +kernel)) (fun _ _ _ _ _ => pg_name (i := 3) scWanted.nd rfl (Or.inl rfl)) (fun _ _ _ _ _ => pts_one (pt_val (pe_mt (pv 3) GS hr1 pass0 (pa_cons (pv 2) pa_nil))))
        (fun _ _ _ _ _ => pe_fld (pv 3) rfl)) pa_nil))), ?_⟩
    refine ⟨_, rfl, mR hB rfl ⟨_, rfl, b, d, B, side, rfl, hB, hpr, hlen, fun H1 r s1 hn hr1 => ⟨r, rfl, ⟨_, SqL.of hr1⟩, fun D hD => ?_⟩⟩⟩
    refine lc_rel (K := K) (zs := row B.ords side) (enc := refO) (p := fun o => o.suits p) (R := fun z y _ => y = .int z.rest) (SqL.of hr1) (Nat.le_trans (row_len _ _) (Nat.le_of_lt (small1000 hlen))) hD (fun _ _ _ _ _ _ _ h => h) ?_ ?_
    · intro z hz H3 s3 Qy Qn qy qn
      have hO := ((hB.os z (row_mem.mp hz).1).same (s1.trans s3))
      refine ⟨rfl, _, rfl, mO hO rfl ⟨_, rfl, z, p, rfl, hO, _, rfl, ?_⟩⟩
      cases e : z.suits p with
      | false => exact iteF (qn e H3 (L2.Same.refl _))
      | true => exact iteT ⟨_, rfl, ro_rest T hO (qy e _ H3 (L2.Same.refl _) rfl)⟩
    · intro H3 ys3 s3 hD3 hP3
      refine ⟨D, ((row B.ords side).filter fun o => o.suits p).map (·.rest), rfl, SqL.of (by rw [hD3, paired_eq hP3, List.map_map]; rfl), ?_⟩
      exact k H3 (s1.trans s3)
  · obtain ⟨fd, F⟩ := T.f_wanted
    exact F.kp
theorem ltL_eq : ∀ xs ys : List Int, HT.lexLt xs ys = ltL xs ys
  | [], [] => rfl
  | [], _ :: _ => rfl
  | _ :: _, [] => rfl
  | x :: xs, y :: ys => by
    show (if x = y then HT.lexLt xs ys else decide (x < y)) = (if x = y then ltL xs ys else decide (x < y))
    rw [ltL_eq xs ys]
/-- what the best so far is -/
def BestAt (H : Hp) (r : Option (List Int)) (v : V) : Prop := match r with
  | none => v = .non
  | some l => ∃ t, v = .ref t ∧ H t = some (.tup (l.map V.int))
theorem BestAt.same {H H' : Hp} {r : Option (List Int)} {v : V} (h : BestAt H r v) (s : L2.Same H H') : BestAt H' r v := by
  cases r with
  | none => exact h
  | some l =>
    obtain ⟨t, e, ht⟩ := h
    exact ⟨t, e, s _ _ ht⟩
def bestI (os : List Ord) (last : Option Int) (i : Nat) : Option (List Int) := ((os.take i).map fun o => rank os last o.pr).foldl better none
theorem bestI_step {os : List Ord} {last : Option Int} {i : Nat} {o : Ord} (h : os[i]? = some o) : bestI os last (i + 1) = better (bestI os last i) (rank os last o.pr) := by
  unfold bestI
  have tk : os.take (i + 1) = os.take i ++ [o] := by
    rw [List.take_add_one, h]
    rfl
  rw [tk, List.map_append, List.foldl_append]
  rfl
theorem bestI_all {os : List Ord} {last : Option Int} : bestI os last os.length = bestOf os last := by
  unfold bestI bestOf
  rw [List.take_length]
/-- the call's price as a value -/
def PairAt (H : Hp) (r : Option (Int × Int)) (v : V) : Prop := match r with
  | none => v = .non
  | some q => ∃ t, v = .ref t ∧ H t = some (.tup [.int q.1, .int q.2])
def spCallPrice (K : PySem.W.Frag) : Sp := fun vs H Q _ => ∃ (b d : Addr) (B : Bk), vs = [.ref b] ∧ BookAt K H b d B ∧ Priced B.ords ∧ B.ords.length ≤ 1000 ∧ ∀ H' v, L2.Same H H' → PairAt H' (callPrice B.ords B.last) v → Q v H'
theorem scCallPrice : FnScope ["book", "best", "number", "price", "buys", "sells", "far", "rank"] ["book"] (defScope s_call_price) := ⟨rfl, rfl, rfl, by decide +kernel, rfl, by decide +kernel, by decide +kernel⟩
theorem w_call_price (T : Tx K mg) : Fn P w K mg base CX0 4 "call_price" ["book"] (spCallPrice K) := by
  refine ⟨ok0 T.f_call_price scCallPrice (fun _ _ _ _ _ _ us hl => match us, hl with | [_], _ => rfl) (fun vs H Q E h => ?_) (fun cdv A outer s H vs Q E hr h => ?_), T.g_call_price, ?_⟩
  · obtain ⟨b, d, B, rfl, _⟩ := h
    rfl
  · obtain ⟨b, d, B, rfl, hB, hpr, hlen, k⟩ := h
    have GW : Fn P w K mg base CX0 3 "wanted" ["book", "side", "price"] (spWanted K) := w_wanted T
    have hu := hu_of hr
    refine ⟨_, pss_cons (ps_set (i := 1) scCallPrice.nd rfl (Or.inl rfl) pe_non)
      (pss_cons (ps_lock (ps_for PassesOwn.never rfl (pi_keys (pe_fld (pv 0) rfl)) (pg_name (i := 2) scCallPrice.nd rfl (Or.inl rfl))
        (pss_cons (ps_set (i := 3) scCallPrice.nd rfl (Or.inl rfl) (pe_fld (pe_dget hu (pe_fld (pv 0) rfl) (pv 2) (fun _ _ => rfl)) rfl))
        (pss_cons (ps_set (i := 4) scCallPrice.nd rfl (Or.inl rfl) (pe_fn GW hr rfl pass0 (pa_cons (pv 0) (pa_cons (pe_gs T.k_BUY (by rfl)) (pa_cons (pv 3) pa_nil)))))
        (pss_cons (ps_set (i := 5) scCallPrice.nd rfl (Or.inl rfl) (pe_fn GW hr rfl pass0 (pa_cons (pv 0) (pa_cons (pe_gs T.k_SELL (by rfl)) (pa_cons (pv 3) pa_nil)))))
        (pss_cons (ps_set (i := 6) scCallPrice.nd rfl (Or.inl rfl) pe_int)
        (pss_cons (ps_if (pt_cmp (pc_notN (pe_fld (pv 0) rfl))) (pss_one (ps_set (i := 6) scCallPrice.nd rfl (Or.inl rfl) (pe_callB call_abs (by rfl) T.z_abs boot_abs (pa_cons (pe_op op_sub (pv 3) (pe_fld (pv 0) rfl)) pa_nil)))) pss_nil)
        (pss_cons (ps_set (i := 7) scCallPrice.nd rfl (Or.inl rfl) (pe_tup (pa_cons (pe_un un_neg (pe_callB (call_min2 rfl) (by rfl) T.z_min boot_min (pa_cons (pv 4) (pa_cons (pv 5) pa_nil))))
          (pa_cons (pe_callB call_abs (by rfl) T.z_abs boot_abs (pa_cons (pe_op op_sub (pv 4) (pv 5)) pa_nil)) (pa_cons (pv 6) (pa_cons (pv 3) pa_nil))))))
        (pss_one (ps_if (PW.pt (pw_or (pt_cmp (pc_isN (pv 1))) (pw_or1 (pt_cmpR (op_ltT hr.units0) (pv 7) (pv 1) (nomark _))))) (pss_one (ps_set (i := 1) scCallPrice.nd rfl (Or.inl rfl) (pv 7))) pss_nil))))))))))
      (pss_cons (ps_if (PW.pt (pw_or (pt_cmp (pc_isN (pv 1))) (pw_or1 (pt_cmpR op_eq (pe_ix ix_tup (pv 1) pe_int (fun _ _ => rfl)) pe_int (nomark _))))) (pss_one (ps_ret pe_non)) pss_nil)
      (pss_one (ps_ret (pe_tup (pa_cons (pe_ix ix_tup (pv 1) pe_int (fun _ _ => rfl)) (pa_cons (pe_un un_neg (pe_ix ix_tup (pv 1) pe_int (fun _ _ => rfl))) pa_nil))))))), ?_⟩
    refine ⟨d, _, hB.dc, trivial, fun od => ?_⟩
    have hL := hB.lock od
    have e0 : ∀ {H1}, L2.Same (upd H d (.frz od (.dK (B.ords.map entry)))) H1 → BookL K H1 b d od B := fun s => hL.same s
    refine ⟨_, rfl, rl_orders T hL ⟨d, od, rfl, .inl ⟨_, hL.dc, ?_⟩⟩⟩
    refine for_keys (zs := B.ords) (kf := entry) (fun i σ H1 => L2.Same (upd H d (.frz od (.dK (B.ords.map entry)))) H1 ∧ ∃ (bv : V) (v2 v3 v4 v5 v6 v7 : Option V), σ = [some (.ref b), some bv, v2, v3, v4, v5, v6, v7] ∧ BestAt H1 (bestI B.ords B.last i) bv)
      ⟨L2.Same.refl _, .non, none, none, none, none, none, none, rfl, rfl⟩ (fun i σ H1 _ h => h.1 _ _ hL.dc) ?_ ?_
    · rintro i o σ H1 hi ⟨s1, bv, v2, v3, v4, v5, v6, v7, rfl, hb⟩
      have ho : o ∈ B.ords := List.mem_of_getElem? hi
      have hL1 := e0 s1
      have hp : optV o.price = .int o.pr := by rw [hpr o ho]; rfl
      refine ⟨_, rfl, rl_orders T hL1 ⟨_, rfl, d, _, rfl, getL hL1 hB.ndn ho, ro_price T (hL1.os o ho) ?_⟩⟩
      rw [hp]
      refine ⟨_, rfl, _, rfl, b, d, B, true, o.pr, rfl, hL1.r hB.ndn, hpr, hlen, fun H2 s2 => ?_⟩
      refine ⟨_, rfl, _, rfl, b, d, B, false, o.pr, rfl, (hL1.same s2).r hB.ndn, hpr, hlen, fun H3 s3 => ?_⟩
      have s13 := s1.trans (s2.trans s3)
      have hL3 := e0 s13
      have hb3 := hb.same (s2.trans s3)
      have rp : ∀ {Q : V → Prop}, Q (optV B.last) → ∃ a C dx fs v, V.ref b = .ref a ∧ H3 a = some (.ins C dx fs) ∧ Cls K C ∧ NoAttr K C "price" ∧ fs.lookup ("price" : Str) = some v ∧ Q v := fun q => let ⟨_, e⟩ := hL3.bk; rf e T.clB T.nB_price rfl q
      have turn : ∀ (Dn : Ends), (∀ σ H1, (L2.Same (upd H d (.frz od (.dK (B.ords.map entry)))) H1 ∧ ∃ (bv : V) (v2 v3 v4 v5 v6 v7 : Option V), σ = [some (.ref b), some bv, v2, v3, v4, v5, v6, v7] ∧ BestAt H1 (bestI B.ords B.last (i + 1)) bv) → Dn.nx σ H1) → ∀ t, H3 t = none → ∀ far, [V.int (-(if wanted B.ords false o.pr < wanted B.ords true o.pr then wanted B.ords false o.pr else wanted B.ords true o.pr)), V.int (if wanted B.ords true o.pr - wanted B.ords false o.pr < 0 then -(wanted B.ords true o.pr - wanted B.ords false o.pr) else wanted B.ords true o.pr - wanted B.ords false o.pr), V.int far, V.int o.pr] = (rank B.ords B.last o.pr).map V.int →
          (tIfS (tOr (tB (tIsN (tVar 1))) (tTest (tOp (rLtT K) (tVar 7) (tVar 1)))) (tAsg (tVar 7) (gName 1)) tNext)
          Dn
          [some (.ref b), some bv, some (.int o.num), some (.int o.pr), some (.int (wanted B.ords true o.pr)), some (.int (wanted B.ords false o.pr)), some (.int far), some (.ref t)] (upd H3 t (.tup [V.int (-(if wanted B.ords false o.pr < wanted B.ords true o.pr then wanted B.ords false o.pr else wanted B.ords true o.pr)), V.int (if wanted B.ords true o.pr - wanted B.ords false o.pr < 0 then -(wanted B.ords true o.pr - wanted B.ords false o.pr) else wanted B.ords true o.pr - wanted B.ords false o.pr), V.int far, V.int o.pr])) := by
        intro Dn nxt t ht far hrk
        rw [hrk]
        have sm := same_new (o := .tup ((rank B.ords B.last o.pr).map V.int)) ht
        have st := bestI_step (last := B.last) hi
        have hb4 := hb3.same sm
        refine ⟨_, rfl, _, rfl, ?_⟩
        cases er : bestI B.ords B.last i with
        | none =>
          rw [er] at hb4 st
          have hb4 : bv = .non := hb4
          subst hb4
          exact iteT (iteT ⟨_, rfl, nxt _ _ ⟨s13.trans sm, .ref t, _, _, _, _, _, _, rfl, by rw [st]; exact ⟨t, rfl, upd_same⟩⟩⟩)
        | some l =>
          rw [er] at hb4 st
          obtain ⟨tb, rfl, htb⟩ := hb4
          refine iteF ⟨_, rfl, _, rfl, t, tb, rank B.ords B.last o.pr, l, rfl, rfl, SqT.of upd_same, SqT.of htb, _, rfl, ?_⟩
          rw [ltL_eq]
          cases hlt : ltL (rank B.ords B.last o.pr) l with
          | true =>
            refine iteT ⟨_, rfl, nxt _ _ ⟨s13.trans sm, .ref t, _, _, _, _, _, _, rfl, ?_⟩⟩
            rw [st]
            show BestAt _ (if ltL (rank B.ords B.last o.pr) l = true then _ else _) _
            rw [hlt]
            exact ⟨t, rfl, upd_same⟩
          | false =>
            refine iteF (nxt _ _ ⟨s13.trans sm, .ref tb, _, _, _, _, _, _, rfl, ?_⟩)
            rw [st]
            show BestAt _ (if ltL (rank B.ords B.last o.pr) l = true then _ else _) _
            rw [hlt]
            exact ⟨tb, rfl, htb⟩
      refine ⟨_, rfl, rp ⟨_, rfl, ?_⟩⟩
      rcases (show B.last = none ∨ ∃ l, B.last = some l by cases B.last <;> simp) with hl | ⟨l, hl⟩
      · have e : optV B.last = .non := by rw [hl]; rfl
        rw [e]
        refine iteF ⟨_, rfl, _, rfl, _, _, rfl, _, rfl, _, rfl, _, rfl, _, _, rfl, rfl, _, rfl, _, rfl, _, rfl, by show 4 ≤ sizeLine; decide, fun t ht => ?_⟩
        exact turn _ (fun _ _ h => h) t ht 0 (by unfold rank; rw [hl]; rfl)
      · have e : optV B.last = .int l := by rw [hl]; rfl
        rw [e]
        refine iteT ⟨_, rfl, _, rfl, rp ⟨_, l, rfl, by rw [hl]; rfl, _, rfl, ?_⟩⟩
        refine ⟨_, rfl, _, rfl, _, _, rfl, _, rfl, _, rfl, _, rfl, _, _, rfl, rfl, _, rfl, _, rfl, _, rfl, by show 4 ≤ sizeLine; decide, fun t ht => ?_⟩
        exact turn _ (fun _ _ h => h) t ht (iabs (o.pr - l)) (by unfold rank; rw [hl]; rfl)
    · rintro σ H1 ⟨s1, bv, v2, v3, v4, v5, v6, v7, rfl, hb⟩
      rw [bestI_all] at hb
      have hd1 := s1 _ _ hL.dc
      have sm1 : L2.Same H (upd H1 d (.dK (B.ords.map entry))) := same_unlock hB.dc s1
      have kk : ∀ H' v, L2.Same (upd H1 d (.dK (B.ords.map entry))) H' → PairAt H' (callPrice B.ords B.last) v → Q v H' := fun H' v s' h => k H' v (sm1.trans s') h
      unfold callPrice at kk
      refine ⟨hd1, _, rfl, _, rfl, ?_⟩
      cases er : bestOf B.ords B.last with
      | none =>
        rw [er] at hb kk
        have hb : bv = .non := hb
        subst hb
        exact iteT (iteT (kk _ _ (L2.Same.refl _) rfl))
      | some l =>
        rw [er] at hb kk
        obtain ⟨tb, rfl, htb⟩ := hb
        obtain ⟨o, ho, el⟩ := best_mem er
        have ht : (upd H1 d (.dK (B.ords.map entry))) tb = some (.tup (l.map V.int)) := by
          rw [upd_ne (ne_of htb hd1 (by intro z; cases z))]
          exact htb
        unfold rank at el
        subst el
        refine iteF ⟨_, rfl, tb, _, _, _, rfl, rfl, SqT.of ht, atI_nat (j := 0) rfl, rfl, _, rfl, ?_⟩
        rw [dec_int]
        cases e0 : (-imin (wanted B.ords true o.pr) (wanted B.ords false o.pr) == 0) with
        | true =>
          have e1 : -imin (wanted B.ords true o.pr) (wanted B.ords false o.pr) = 0 := by simpa using e0
          refine iteT (kk _ _ (L2.Same.refl _) ?_)
          show PairAt _ (if -imin (wanted B.ords true o.pr) (wanted B.ords false o.pr) = 0 then none else _) _
          rw [if_pos e1]
          rfl
        | false =>
          have e1 : ¬ -imin (wanted B.ords true o.pr) (wanted B.ords false o.pr) = 0 := by simpa using e0
          refine iteF ⟨_, rfl, tb, _, _, _, rfl, rfl, SqT.of ht, atI_nat (j := 3) rfl, _, rfl, tb, _, _, _, rfl, rfl, SqT.of ht, atI_nat (j := 0) rfl, _, rfl, by show 2 ≤ sizeLine; decide, fun t htn => kk _ _ (same_new htn) ?_⟩
          show PairAt _ (if -imin (wanted B.ords true o.pr) (wanted B.ords false o.pr) = 0 then none else _) _
          rw [if_neg e1]
          exact ⟨t, rfl, upd_same⟩
  · obtain ⟨fd, F⟩ := T.f_call_price
    exact F.kp
end
end FB

set_option maxRecDepth 100000
set_option maxHeartbeats 4000000
/-! The walk of uncross. -/
namespace FB
open PySem PySem.Spec PyProof.Rows L2
section
variable {P : Program} {w : World} {K : PySem.W.Frag} {mg : Str → Option Value} {base : Heap}
def ctV (c : CTr) : List V := [.str "trade", .int c.b, .int c.s, .int c.p, .int c.m]
def CtAt (H : Hp) (c : CTr) (y : V) : Prop := ∃ t, y = .ref t ∧ H t = some (.tup (ctV c))
theorem cts_keep {H H' : Hp} {cs : List CTr} {ys : List V} (h : Paired (CtAt H) cs ys) (k : TupKeep H H') : Paired (CtAt H') cs ys := paired_map (fun _ _ ⟨t, e, ht⟩ => ⟨t, e, k _ _ ht⟩) h
/-- one order of a call's trade -/
theorem unc_turn (T : Tx K mg) {H : Hp} {b d : Addr} {B : Bk} {o : Ord} {m : Int} {σ : L2.St} {Dn : Ends} (hB : BookAt K H b d B) (ho : o ∈ B.ords) (h0 : σ[0]? = some (some (.ref b))) (h6 : σ[6]? = some (some (.int m))) (h7 : σ[7]? = some (some (.ref o.ad)))
    (nx : ∀ H', BookAt K H' b d { B with ords := takeOff B.ords (lessen o m) } → OrdAt K H' (lessen o m) → (∀ a z, H a = some z → a ≠ o.ad → a ≠ d → H' a = some z) → Dn.nx σ H') :
    (tSeq (sFld K (tVar 7) (tOp (rI0 fun i j => .int (i - j)) (tFld K (tVar 7) "rest") (tVar 6)) "rest") (tSeq (tDrop (tMeth (CO K) "show" (spShow K) [] E0 (tVar 7) tNil))
      (tIfS (tTest (tOp rEq (tFld K (tVar 7) "rest") (tC (.int 0)))) (tDrop (tDPop1 (tFld K (tVar 0) "orders") (tFld K (tVar 7) "number"))) tNext))) Dn σ H := by
  have hO := hB.os o ho
  have hm : InOrNew B.ords o := .inl ⟨o, ho, rfl, rfl⟩
  refine ⟨_, h7, ro_rest T hO ⟨_, h6, _, _, rfl, rfl, _, h7, wo_rest T hO fun H1 h1 s1 => ?_⟩⟩
  have hB1 := hB.chg hO hm h1 s1 rfl rfl
  refine ⟨_, h7, mO (o := { o with rest := o.rest - m }) h1 rfl ⟨{ o with rest := o.rest - m }, rfl, h1, fun H2 h2 s2 => ?_⟩⟩
  have hB2 := hB1.chg h1 (hm.upd rfl rfl) h2 s2 rfl rfl
  have h2 : OrdAt K H2 (lessen o m) := h2
  have hB2' : BookAt K H2 b d { B with ords := updO B.ords (lessen o m) } := by
    have e := updO_upd (os := B.ords) (o1 := { o with rest := o.rest - m }) (o2 := lessen o m) rfl
    rw [← e]
    exact hB2
  have fr : ∀ a z, H a = some z → a ≠ o.ad → a ≠ d → H2 a = some z := fun a z e n _ => s2 a z n (s1 a z n e)
  refine ⟨_, h7, ro_rest T h2 ⟨rfl, _, rfl, ?_⟩⟩
  rw [dec_int]
  cases e0 : ((lessen o m).rest == 0) with
  | false =>
    have e1 : ¬ (lessen o m).rest = 0 := by simpa using e0
    refine iteF (nx H2 ?_ h2 fr)
    unfold takeOff
    rw [if_neg e1]
    exact hB2'
  | true =>
    have e1 : (lessen o m).rest = 0 := by simpa using e0
    refine iteT ⟨_, h0, rb_orders T hB2' ⟨d, rfl, .inl ⟨_, .inl hB2'.dc⟩, _, h7, ro_number T h2 ⟨_, Sum.inl o.num, .ref o.ad, hB2'.dc, rfl, val_entry (o := lessen o m) hB2'.ndn (mem_upd ⟨o, ho, rfl⟩), ?_⟩⟩⟩
    rw [drop_entry]
    have hd := hB2'.dropped o.num
    refine nx _ ?_ (h2.but sb_upd (h2.nd hB2')) fun a z e n1 n2 => by rw [upd_ne n2]; exact fr a z e n1 n2
    have ed : dropO (updO B.ords (lessen o m)) o.num = dropO B.ords o.num := dropO_upd rfl
    unfold takeOff
    rw [if_pos e1]
    show BookAt K _ b d { B with ords := dropO B.ords o.num }
    rw [← ed]
    exact hd
def spUncross (K : PySem.W.Frag) : Sp := fun vs H Q E => ∃ (b d : Addr) (B : Bk), vs = [.ref b] ∧ BookAt K H b d B ∧ BkOk B ∧ B.ords.length ≤ 1000 ∧
  (B.calling = true → ∀ H' r ys, BookAt K H' b d (uncrossB B).2 → Kd d H H' → H' r = some (.lst ys) → Paired (CtAt H') (uncrossB B).1 ys → Q (.ref r) H') ∧ (B.calling = false → E (.ref (He.ga K "NotNow")) none H)
/-- between two turns -/
structure UMid (K : PySem.W.Frag) (H0 : Hp) (b d t0 r rb rs : Addr) (p n : Int) (u0 : US) (H : Hp) (u : US) (cs : List CTr) (ys : List V) : Prop where
  hB : BookAt K H b d u.B
  ok : UOk u
  len : u.B.ords.length ≤ 1000
  kd : Kd d H0 H
  fnd : H t0 = some (.tup [.int p, .int n])
  lst : H r = some (.lst ys)
  pct : Paired (CtAt H) cs ys
  lb : H rb = some (.lst (u.buys.map refO))
  ls : H rs = some (.lst (u.sells.map refO))
  nb : rb ≠ r
  ns : rs ≠ r
  all : iter (ustep p) n.toNat u0 = (cs ++ (iter (ustep p) (muU u) u).1, (iter (ustep p) (muU u) u).2)
  mu : cs.length + muU u ≤ 10000000
theorem Kd.lst2 {d r : Addr} {H H2 H' : Hp} {xs ys : List V} (k2 : Kd d H H2) (hn : H2 r = none) (k : Kd d H H') (e : H' r = some (.lst xs)) : Kd d H (upd H' r (.lst ys)) := fun a x h i n => by
  rw [upd_ne (ne_of_none (k2 a x h i n) hn)]
  exact k a x h i n
theorem nodup_len {α : Type} [DecidableEq α] : ∀ {l m : List α}, l.Nodup → (∀ x ∈ l, x ∈ m) → l.length ≤ m.length
  | [], _, _, _ => Nat.zero_le _
  | a :: l, m, hn, hs => by
    rw [List.nodup_cons] at hn
    have ha := hs a List.mem_cons_self
    have ih := nodup_len (l := l) (m := m.erase a) hn.2 fun x hx => by
      refine (List.mem_erase_of_ne (fun e : x = a => hn.1 (by rw [← e]; exact hx))).mpr (hs x (List.mem_cons_of_mem _ hx))
    rw [List.length_erase_of_mem ha] at ih
    have : 0 < m.length := List.length_pos_of_mem ha
    rw [List.length_cons]
    omega
theorem ulenOk {H0 : Hp} {b d t0 r rb rs : Addr} {p n : Int} {u0 : US} {H : Hp} {u : US} {cs : List CTr} {ys : List V} (M : UMid K H0 b d t0 r rb rs p n u0 H u cs ys) : ys.length < sizeLine := by
  have h1 := paired_len M.pct
  have h2 := M.mu
  rw [sizeLine_eq]
  omega
theorem scUncross : FnScope ["book", "found", "told", "left", "buys", "sells", "many", "order"] ["book"] (defScope s_uncross) := ⟨rfl, rfl, rfl, by decide +kernel, rfl, by decide +kernel, by decide +kernel⟩
theorem w_uncross (T : Tx K mg) : Fn P w K mg base (L2.CX P w) 5 "uncross" ["book"] (spUncross K) := by
  refine ⟨okX T.f_uncross scUncross (fun _ _ _ _ _ _ us hl => match us, hl with | [_], _ => rfl) (fun vs H Q E h => ?_) (fun cdv A outer s H vs Q E hr h => ?_), T.g_uncross, ?_⟩
  · obtain ⟨b, d, B, rfl, _⟩ := h
    rfl
  · obtain ⟨b, d, B, rfl, hB, hok, hlen, k1, k2⟩ := h
    have GR : Mt P w K mg base CX0 2 "Book" "row" ["self", "side"] (spRow K) := w_row T
    have GT : Mt P w K mg base CX0 1 "Book" "trade" ["self", "price", "many"] (spTrade K) := w_trade T
    have GS : Mt P w K mg base CX0 1 "Order" "show" ["self"] (spShow K) := w_show T
    have GC : Fn P w K mg base CX0 4 "call_price" ["book"] (spCallPrice K) := w_call_price T
    obtain ⟨xP, kP, bP, tP⟩ := T.e_NotNow
    have hr1 := hr.mono (j := 1) (by decide)
    have hr2 := hr.mono (j := 2) (by decide)
    refine ⟨_, pss_cons (ps_if (pt_not (pt_val (pe_fld (pv 0) rfl))) (pss_one (ps_raise rfl (takes_of rfl rfl rfl rfl) (pmk_own PySem.F.excBase_ValueError xP T.g_NotNow kP (raises_own bP tP) rfl))) pss_nil)
      (PSs.nox (pss_cons (ps_fld (pv 0) pe_bl rfl)
      (pss_cons (ps_set (i := 1) scUncross.nd rfl (Or.inl rfl) (pe_fn GC hr rfl pass0 (pa_cons (pv 0) pa_nil)))
      (pss_cons (ps_if (pt_cmp (pc_isN (pv 1))) (pss_one (ps_ret (pe_lst pa_nil))) pss_nil)
      (pss_cons (ps_set (i := 2) scUncross.nd rfl (Or.inl rfl) (pe_lst pa_nil))
      (pss_cons (ps_set (i := 3) scUncross.nd rfl (Or.inl rfl) (pe_ix ix_tup (pv 1) pe_int (fun _ _ => rfl)))
      (pss_cons (ps_set (i := 4) scUncross.nd rfl (Or.inl rfl) (pe_mt (pv 0) GR hr2 pass0 (pa_cons (pe_gs T.k_BUY (by rfl)) pa_nil)))
      (pss_cons (ps_set (i := 5) scUncross.nd rfl (Or.inl rfl) (pe_mt (pv 0) GR hr2 pass0 (pa_cons (pe_gs T.k_SELL (by rfl)) pa_nil)))
      (pss_cons (ps_while PassesOwn.never (pt_cmpR op_gt (pv 3) pe_int (nomark _))
        (pss_cons (ps_set (i := 6) scUncross.nd rfl (Or.inl rfl) (pe_callB (call_min3 rfl) (by rfl) T.z_min boot_min (pa_cons (pv 3) (pa_cons (pe_fld (pe_ix ix_list (pv 4) pe_int (fun _ _ => rfl)) rfl) (pa_cons (pe_fld (pe_ix ix_list (pv 5) pe_int (fun _ _ => rfl)) rfl) pa_nil)))))
        (pss_cons (ps_expr (pe_bm PySem.F.plainAttrs_list PySem.F.slot_list_append PySem.F.type_list_append mt_append (pv 2) (pa_cons (pe_tup (pa_cons pe_str (pa_cons (pe_fld (pe_ix ix_list (pv 4) pe_int (fun _ _ => rfl)) rfl)
          (pa_cons (pe_fld (pe_ix ix_list (pv 5) pe_int (fun _ _ => rfl)) rfl) (pa_cons (pe_ix ix_tup (pv 1) pe_int (fun _ _ => rfl)) (pa_cons (pv 6) pa_nil)))))) pa_nil)))
        (pss_cons (ps_expr (pe_mt (pv 0) GT hr1 pass0 (pa_cons (pe_ix ix_tup (pv 1) pe_int (fun _ _ => rfl)) (pa_cons (pv 6) pa_nil))))
        (pss_cons (ps_set (i := 3) scUncross.nd rfl (Or.inl rfl) (pe_op op_sub (pv 3) (pv 6)))
        (pss_cons (ps_for PassesOwn.never rfl (pi_tup (pe_tup (pa_cons (pe_ix ix_list (pv 4) pe_int (fun _ _ => rfl)) (pa_cons (pe_ix ix_list (pv 5) pe_int (fun _ _ => rfl)) pa_nil)))) (pg_name (i := 7) scUncross.nd rfl (Or.inl rfl))
          (pss_cons (ps_fld (pv 7) (pe_op op_sub (pe_fld (pv 7) rfl) (pv 6)) rfl)
          (pss_cons (ps_expr (pe_mt0 (pv 7) GS hr1 pass0))
          (pss_one (ps_if (pt_cmpR op_eq (pe_fld (pv 7) rfl) pe_int (nomark _)) (pss_one (ps_expr (pe_dpop1 (pe_fld (pv 0) rfl) (pe_fld (pv 7) rfl) ⟨rfl, rfl, rfl, rfl⟩))) pss_nil)))))
        (pss_cons (ps_setLc (i := 4) (own := [("order", 7)]) (g := gName 7) (tt := tTest (tOp (rI0 fun i j => .bl (decide (j < i))) (tFld K (tVar 7) "rest") (tC (.int 0)))) (te := tVar 7) rfl scUncross.nd rfl rfl (sw_true rfl rfl rfl (by decide +kernel)) (pi_list (pv 4))
            (blkOk_by (N := ["book", "found", "told", "left", "buys", "sells", "many", "order"]) (sc := defScope s_uncross) (by decide +kernel)) (fun _ _ _ _ _ => pg_name (i := 7) scUncross.nd rfl (Or.inl rfl)) (fun _ _ _ _ _ => pts_one (pt_cmpR op_gt (pe_fld (pv 7) rfl) pe_int (nomark _))) (fun _ _ _ _ _ => pv 7))
        (pss_one (ps_setLc (i := 5) (own := [("order", 7)]) (g := gName 7) (tt := tTest (tOp (rI0 fun i j => .bl (decide (j < i))) (tFld K (tVar 7) "rest") (tC (.int 0)))) (te := tVar 7) rfl scUncross.nd rfl rfl (sw_true rfl rfl rfl (by decide +kernel)) (pi_list (pv 5))
            (blkOk_by (N := ["book", "found", "told", "left", "buys", "sells", "many", "order"]) (sc := defScope s_uncross) (by decide +kernel)) (fun _ _ _ _ _ => pg_name (i := 7) scUncross.nd rfl (Or.inl rfl)) (fun _ _ _ _ _ => pts_one (pt_cmpR op_gt (pe_fld (pv 7) rfl) pe_int (nomark _))) (fun _ _ _ _ _ => pv 7))))))))))
      (pss_one (ps_ret (pv 2)))))))))))), ?_⟩
    refine ⟨_, rfl, rb_calling T hB ⟨_, rfl, ?_⟩⟩
    cases hc : B.calling with
    | false => exact iteT (k2 hc)
    | true =>
      have k1 := k1 hc
      refine iteF ⟨_, rfl, wb_calling T hB fun H1 hB1 s1 => ?_⟩
      have kd1 : Kd d H H1 := let ⟨_, e⟩ := hB.bk; Kd.ins e s1
      refine ⟨_, rfl, b, d, _, rfl, hB1, priced_of (calling_ok hok false), hlen, fun H2 v s2 hv => ?_⟩
      have hv : PairAt H2 (callPrice B.ords B.last) v := hv
      have hB2 := hB1.same s2
      have kd2 := kd1.trans (Kd.of (d := d) s2)
      unfold uncrossB at k1
      refine ⟨_, rfl, ?_⟩
      cases ec : callPrice B.ords B.last with
      | none =>
        rw [ec] at hv k1
        have hv : v = .non := hv
        subst hv
        refine ⟨_, rfl, iteT ⟨by show 0 ≤ sizeLine; decide, fun r hr => ?_⟩⟩
        exact k1 _ r [] (hB2.same (same_new hr)) (kd2.trans (Kd.of (same_new hr))) upd_same .nil
      | some q =>
        obtain ⟨p, n⟩ := q
        rw [ec] at hv k1
        obtain ⟨t0, rfl, ht0⟩ := hv
        have k1 : ∀ H' r ys, BookAt K H' b d (iter (ustep p) n.toNat { left := n, buys := row B.ords true, sells := row B.ords false, B := { B with calling := false } }).2.B → Kd d H H' → H' r = some (.lst ys) →
          Paired (CtAt H') (iter (ustep p) n.toNat { left := n, buys := row B.ords true, sells := row B.ords false, B := { B with calling := false } }).1 ys → Q (.ref r) H' := k1
        have hst := ustart_ok hok ec
        generalize hu0 : ({ left := n, buys := row B.ords true, sells := row B.ords false, B := { B with calling := false } } : US) = u0 at k1 hst
        refine ⟨_, rfl, iteF ⟨by show 0 ≤ sizeLine; decide, fun r hrn => ?_⟩⟩
        have sm3 := same_new (o := .lst []) hrn
        have hB3 := hB2.same sm3
        refine ⟨_, rfl, t0, _, _, _, rfl, rfl, SqT.of (sm3 _ _ ht0), atI_nat (j := 1) rfl, ?_⟩
        refine ⟨_, rfl, mB hB3 rfl ⟨b, d, _, true, rfl, hB3.r, priced_of (calling_ok hok false), hlen, fun H4 rb s4 n4 e4 => ⟨_, rfl, mB (hB3.same s4) rfl ⟨b, d, _, false, rfl, (hB3.same s4).r, priced_of (calling_ok hok false), hlen, fun H5 rs s5 n5 e5 => ?_⟩⟩⟩⟩
        have s25 := sm3.trans (s4.trans s5)
        have fin : ∀ H1 rb rs u cs ys, UMid K H b d t0 r rb rs p n u0 H1 u cs ys → ustep p u = none → Q (.ref r) H1 := fun H1 rb rs u cs ys M e => by
          have e2 := M.all
          rw [iter_none e, List.append_nil] at e2
          exact k1 H1 r ys (by rw [e2]; exact M.hB) M.kd M.lst (by rw [e2]; exact M.pct)
        refine ⟨fun m σ H1 => ∃ u cs ys v6 v7 rb rs, σ = [some (.ref b), some (.ref t0), some (.ref r), some (.int u.left), some (.ref rb), some (.ref rs), v6, v7] ∧ UMid K H b d t0 r rb rs p n u0 H1 u cs ys ∧ m = muU u,
          ⟨_, u0, [], [], none, none, rb, rs, by rw [← hu0]; rfl, ⟨?_, hst, ?_, kd2.trans (Kd.of s25), s25 _ _ ht0, s5 _ _ (s4 _ _ upd_same), .nil, ?_, ?_, ?_, ?_, ?_, ?_⟩, rfl⟩, ?_⟩
        · rw [← hu0]
          exact hB2.same s25
        · rw [← hu0]
          exact hlen
        · rw [← hu0]
          exact s5 _ _ e4
        · rw [← hu0]
          exact e5
        · exact (ne_of_none upd_same n4).symm
        · exact (ne_of_none (s4 _ _ upd_same) n5).symm
        · rw [show muU u0 = n.toNat by rw [← hu0]; rfl]
          rfl
        · have h1 := hst.lb
          have h2 := restSum_le (os := row B.ords true) fun o ho => (hok.os o (row_mem.mp ho).1).rmax
          have h3 := row_len B.ords true
          rw [← hu0] at h1 ⊢
          have h1 : n ≤ restSum (row B.ords true) := h1
          show 0 + n.toNat ≤ 10000000
          omega
        rintro m σ H6 ⟨u, cs, ys, v6, v7, rb, rs, rfl, M, rfl⟩
        refine ⟨_, rfl, _, _, rfl, rfl, _, rfl, ?_⟩
        by_cases h0 : (0 : Int) < u.left
        · rw [decide_eq_true h0]
          refine iteT ⟨_, fun _ _ h => h, ?_⟩
          obtain ⟨x, bs, y, ss, eb, es⟩ := M.ok.heads h0
          have hx := (M.ok.bs x (by rw [eb]; exact List.mem_cons_self)).1
          have hy := (M.ok.ss y (by rw [es]; exact List.mem_cons_self)).1
          have lb6 := M.lb
          have ls6 := M.ls
          rw [eb] at lb6
          rw [es] at ls6
          have hx6 := M.hB.os x hx
          have hy6 := M.hB.os y hy
          have st := ustep_some (p := p) h0 eb es
          have sk := ustep_ok M.ok st
          have ti := tail_in M.ok eb es (least3 u.left x.rest y.rest)
          have nad : x.ad ≠ y.ad := fun z => ti.2.2.2 (by rw [nodup_inj M.hB.nda hx hy z])
          refine ⟨_, rfl, _, rfl, rb, _, _, _, rfl, rfl, SqL.of lb6, atI_nat (j := 0) rfl, ro_rest T hx6 ⟨_, rfl, rs, _, _, _, rfl, rfl, SqL.of ls6, atI_nat (j := 0) rfl, ro_rest T hy6 ⟨_, _, _, rfl, ?_⟩⟩⟩
          have hm : ∃ m, m = least3 u.left x.rest y.rest := ⟨_, rfl⟩
          obtain ⟨m, em⟩ := hm
          rw [← em] at st sk ti ⊢
          refine ⟨_, rfl, .inl ⟨rfl, _, SqL.of M.lst⟩, _, rfl, rb, _, _, _, rfl, rfl, SqL.of lb6, atI_nat (j := 0) rfl, ro_number T hx6 ⟨_, rfl, rs, _, _, _, rfl, rfl, SqL.of ls6, atI_nat (j := 0) rfl, ro_number T hy6
            ⟨_, rfl, t0, _, _, _, rfl, rfl, SqT.of M.fnd, atI_nat (j := 0) rfl, _, rfl, by show 5 ≤ sizeLine; decide, fun t ht => ⟨r, ys, .ref t, rfl, rfl, by rw [upd_ne (ne_of_none M.lst ht)]; exact M.lst, ulenOk M, ?_⟩⟩⟩⟩
          -- behind the append
          have smt := same_new (o := .tup (ctV ⟨x.num, y.num, p, m⟩)) ht
          have r6 : (upd H6 t (.tup (ctV ⟨x.num, y.num, p, m⟩))) r = some (.lst ys) := smt _ _ M.lst
          obtain ⟨H7, e7⟩ : ∃ H7, H7 = upd (upd H6 t (.tup (ctV ⟨x.num, y.num, p, m⟩))) r (.lst (ys ++ [.ref t])) := ⟨_, rfl⟩
          have hB7 : BookAt K H7 b d u.B := by rw [e7]; exact (M.hB.same smt).lst r6
          have kd7 : Kd d H H7 := by rw [e7]; exact Kd.lst2 kd2 hrn (M.kd.trans (Kd.of smt)) r6
          have tk7 : TupKeep H6 H7 := by rw [e7]; exact (TupKeep.of smt).trans (.lst r6)
          have lb7 : H7 rb = some (.lst ((x :: bs).map refO)) := by rw [e7, upd_ne M.nb]; exact smt _ _ lb6
          have ls7 : H7 rs = some (.lst ((y :: ss).map refO)) := by rw [e7, upd_ne M.ns]; exact smt _ _ ls6
          have r7 : H7 r = some (.lst (ys ++ [.ref t])) := by rw [e7, upd_same]
          have t7 : H7 t = some (.tup (ctV ⟨x.num, y.num, p, m⟩)) := by rw [e7]; exact TupKeep.lst r6 _ _ upd_same
          have f7 := tk7 _ _ M.fnd
          change (tSeq (tDrop (tMeth (CB K) "trade" (spTrade K) [] E0 (tVar 0) (tCons (tOp (rIxT K) (tVar 1) (tC (.int 0))) (tCons (tVar 6) tNil)))) _) _ _ (upd (upd H6 t (.tup (ctV ⟨x.num, y.num, p, m⟩))) r (.lst (ys ++ [.ref t])))
          rw [← e7]
          refine ⟨_, rfl, mB hB7 rfl ⟨_, rfl, t0, _, _, _, rfl, rfl, SqT.of f7, atI_nat (j := 0) rfl, _, rfl, b, d, _, p, m, rfl, hB7, fun H8 hB8 s8 => ?_⟩⟩
          have kd8 : Kd d H7 H8 := let ⟨_, e⟩ := hB7.bk; Kd.ins e s8
          have lb8 := kd8 _ _ lb7 rfl (ne_of lb7 hB7.dc (by intro z; cases z))
          have ls8 := kd8 _ _ ls7 rfl (ne_of ls7 hB7.dc (by intro z; cases z))
          refine ⟨_, rfl, _, rfl, _, _, rfl, rfl, ?_⟩
          refine ⟨_, rfl, rb, _, _, _, rfl, rfl, SqL.of lb8, atI_nat (j := 0) rfl, _, rfl, rs, _, _, _, rfl, rfl, SqL.of ls8, atI_nat (j := 0) rfl, by show 2 ≤ sizeLine; decide, fun q hq => ⟨q, rfl, ⟨_, SqT.of upd_same⟩, ?_⟩⟩
          have sm9 := same_new (o := .tup [refO x, refO y]) hq
          have hB9 := hB8.same sm9
          refine for_tup (K := K) (a := q) (xs := [refO x, refO y]) (fun i σ H1 => Kd d (upd H8 q (.tup [refO x, refO y])) H1 ∧ (∃ v7, σ = [some (.ref b), some (.ref t0), some (.ref r), some (.int (u.left - m)), some (.ref rb), some (.ref rs), some (.int m), v7]) ∧
              ((i = 0 ∧ BookAt K H1 b d { u.B with last := some p, traded := u.B.traded + m }) ∨
               (i = 1 ∧ BookAt K H1 b d { u.B with last := some p, traded := u.B.traded + m, ords := takeOff u.B.ords (lessen x m) } ∧ OrdAt K H1 (lessen x m)) ∨
               (i = 2 ∧ BookAt K H1 b d { u.B with last := some p, traded := u.B.traded + m, ords := takeOff (takeOff u.B.ords (lessen x m)) (lessen y m) } ∧ OrdAt K H1 (lessen x m) ∧ OrdAt K H1 (lessen y m))))
            ⟨Kd.refl _ _, ⟨_, rfl⟩, .inl ⟨rfl, hB9⟩⟩ (fun i σ H1 _ h => SqT.of (h.1 _ _ upd_same rfl (ne_of upd_same hB9.dc (by intro z; cases z)))) ?_ ?_
          · rintro i z σ H1 hi ⟨k9, ⟨v7, rfl⟩, hh⟩
            rcases hh with ⟨rfl, hBk⟩ | ⟨rfl, hBk, hOx⟩ | ⟨rfl, _⟩
            · have ez : refO x = z := Option.some.inj hi
              subst ez
              refine unc_turn T hBk (o := x) (m := m) hx rfl rfl rfl fun H' hB' hO' fr => ⟨k9.trans ?_, ⟨_, rfl⟩, .inr (.inl ⟨rfl, hB', hO'⟩)⟩
              intro a v e i n
              refine fr a v e (fun z => ?_) n
              obtain ⟨dx, e2⟩ := hBk.os x hx
              rw [z, e2] at e
              cases e
              cases i
            · have ez : refO y = z := Option.some.inj hi
              subst ez
              refine unc_turn T hBk (o := y) (m := m) ti.2.2.1 rfl rfl rfl fun H' hB' hO' fr => ⟨k9.trans ?_, ⟨_, rfl⟩, .inr (.inr ⟨rfl, hB', ?_, hO'⟩)⟩
              · intro a v e i n
                refine fr a v e (fun z => ?_) n
                obtain ⟨dx, e2⟩ := hBk.os y ti.2.2.1
                rw [z, e2] at e
                cases e
                cases i
              · have nd := OrdAt.nd (o := lessen x m) hOx hBk
                obtain ⟨dx, e2⟩ := hOx
                exact ⟨dx, fr _ _ e2 nad nd⟩
            · cases hi
          · rintro σ H1 ⟨k9, ⟨v7, rfl⟩, hh⟩
            rcases hh with ⟨z, _⟩ | ⟨z, _⟩ | ⟨_, hBk, hOx, hOy⟩
            · cases z
            · cases z
            have k71 : Kd d H7 H1 := (kd8.trans (Kd.of sm9)).trans k9
            have lb1 := k71 _ _ lb7 rfl (ne_of lb7 hB7.dc (by intro z; cases z))
            have ls1 := k71 _ _ ls7 rfl (ne_of ls7 hB7.dc (by intro z; cases z))
            have lenb : (lessen x m :: bs).length ≤ sizeLine := by
              have h1 : bs.length + 1 ≤ u.B.ords.length := by
                have e : u.buys.length = bs.length + 1 := by rw [eb]; rfl
                rw [← e]
                have := nodup_len M.ok.nb fun z hz => by
                  obtain ⟨o, ho, e⟩ := List.mem_map.mp hz
                  exact List.mem_map.mpr ⟨o, (M.ok.bs o ho).1, e⟩
                rwa [List.length_map, List.length_map] at this
              have := M.len
              rw [List.length_cons, sizeLine_eq]
              omega
            have lens : (lessen y m :: ss).length ≤ sizeLine := by
              have h1 : ss.length + 1 ≤ u.B.ords.length := by
                have e : u.sells.length = ss.length + 1 := by rw [es]; rfl
                rw [← e]
                have := nodup_len M.ok.ns fun z hz => by
                  obtain ⟨o, ho, e⟩ := List.mem_map.mp hz
                  exact List.mem_map.mpr ⟨o, (M.ok.ss o ho).1, e⟩
                rwa [List.length_map, List.length_map] at this
              have := M.len
              rw [List.length_cons, sizeLine_eq]
              omega
            refine ⟨_, rfl, rb, rfl, ⟨_, SqL.of lb1⟩, fun D hD => ?_⟩
            refine lc_rel (K := K) (zs := lessen x m :: bs) (enc := refO) (p := fun o => decide (0 < o.rest)) (R := fun z y' _ => y' = refO z) (SqL.of lb1) lenb hD (fun _ _ _ _ _ _ _ h => h) ?_ ?_
            · intro z hz H2 s2 Qy Qn qy qn
              have hO : OrdAt K H2 z := by
                rcases List.mem_cons.mp hz with e | hz
                · rw [e]
                  exact OrdAt.same (o := lessen x m) hOx s2
                · exact (hBk.os z (ti.1 z hz)).same s2
              refine ⟨rfl, _, rfl, ro_rest T hO ⟨_, _, rfl, rfl, _, rfl, ?_⟩⟩
              cases e : decide (0 < z.rest) with
              | false => exact iteF (qn e H2 (L2.Same.refl _))
              | true => exact iteT ⟨_, rfl, qy e _ H2 (L2.Same.refl _) rfl⟩
            · intro H2 ys2 s2 hD2 hP2
              have ls2 := s2 _ _ ls1
              refine ⟨_, rfl, rs, rfl, ⟨_, SqL.of ls2⟩, fun D' hD' => ?_⟩
              refine lc_rel (K := K) (zs := lessen y m :: ss) (enc := refO) (p := fun o => decide (0 < o.rest)) (R := fun z y' _ => y' = refO z) (SqL.of ls2) lens hD' (fun _ _ _ _ _ _ _ h => h) ?_ ?_
              · intro z hz H3 s3 Qy Qn qy qn
                have hO : OrdAt K H3 z := by
                  rcases List.mem_cons.mp hz with e | hz
                  · rw [e]
                    exact OrdAt.same (o := lessen y m) hOy (s2.trans s3)
                  · exact (hBk.os z (ti.2.1 z hz)).same (s2.trans s3)
                refine ⟨rfl, _, rfl, ro_rest T hO ⟨_, _, rfl, rfl, _, rfl, ?_⟩⟩
                cases e : decide (0 < z.rest) with
                | false => exact iteF (qn e H3 (L2.Same.refl _))
                | true => exact iteT ⟨_, rfl, qy e _ H3 (L2.Same.refl _) rfl⟩
              · intro H3 ys3 s3 hD3 hP3
                have s13 := s2.trans s3
                have k73 : Kd d H7 H3 := k71.trans (Kd.of s13)
                have tk3 : TupKeep H7 H3 := TupKeep.kd k73 hB7.hd
                have r1 := k71 _ _ r7 rfl (ne_of r7 hB7.dc (by intro z; cases z))
                refine ⟨_, sk.mu, _, cs ++ [⟨x.num, y.num, p, m⟩], ys ++ [.ref t], _, _, D, D', rfl,
                  ⟨hBk.same s13, sk.ok, Nat.le_trans sk.len M.len, kd7.trans k73, tk3 _ _ f7, s13 _ _ r1, ?_, ?_, ?_, ?_, ?_, ?_, ?_⟩, rfl⟩
                · exact paired_snoc (cts_keep M.pct (tk7.trans tk3)) ⟨t, rfl, tk3 _ _ t7⟩
                · rw [s3 _ _ hD2, paired_eq hP2]
                  rfl
                · rw [hD3, paired_eq hP3]
                  rfl
                · exact (ne_of_none r1 hD).symm
                · exact (ne_of_none (s2 _ _ r1) hD').symm
                · rw [M.all, uiter_step M.ok st, List.append_assoc]
                  rfl
                · have h1 := sk.mu
                  have h2 := M.mu
                  rw [List.length_append]
                  show cs.length + 1 + _ ≤ _
                  omega
        · rw [decide_eq_false h0]
          exact iteF ⟨_, rfl, fin H6 rb rs u cs ys M (ustep_none h0)⟩
  · obtain ⟨fd, F⟩ := T.f_uncross
    exact F.kp
end
end FB

set_option maxRecDepth 100000
set_option maxHeartbeats 4000000
set_option pp.maxSteps 400
/-! The walk of Book.depth. -/
namespace FB
open PySem PySem.Spec PyProof.Rows L2
theorem paired_last {α β : Type} {F : α → β → Prop} : ∀ {l : List α} {a : α} {m : List β}, Paired F (l ++ [a]) m → ∃ m' b, m = m' ++ [b] ∧ Paired F l m' ∧ F a b
  | [], a, m, h => by
    have h : Paired F [a] m := h
    cases h with
    | cons r t =>
      cases t
      exact ⟨[], _, rfl, .nil, r⟩
  | x :: l, a, m, h => by
    have h : Paired F (x :: (l ++ [a])) m := h
    cases h with
    | cons r t =>
      obtain ⟨m', b, e, p, q⟩ := paired_last t
      exact ⟨_ :: m', b, by rw [e]; rfl, .cons r p, q⟩
theorem ifYd {c A B : Prop} [Decidable c] (hc : c) (h : A) : if decide c = true then A else B := by
  rw [if_pos (decide_eq_true hc)]
  exact h
theorem ifNd {c A B : Prop} [Decidable c] (hc : ¬ c) (h : B) : if decide c = true then A else B := by
  rw [if_neg (by simpa using hc)]
  exact h
/-- a pair of whole numbers -/
def PrAt (H : Hp) (z : Int × Int) (y : V) : Prop := ∃ t, y = .ref t ∧ H t = some (.tup [.int z.1, .int z.2])
theorem prs_keep {H H' : Hp} {zs : List (Int × Int)} {ys : List V} (h : Paired (PrAt H) zs ys) (k : TupKeep H H') : Paired (PrAt H') zs ys := paired_map (fun _ _ ⟨t, e, ht⟩ => ⟨t, e, k _ _ ht⟩) h
theorem depth_nil (o : Ord) : depthStep [] o = [(o.pr, o.part)] := rfl
theorem depth_snoc (acc : List (Int × Int)) (p m : Int) (o : Ord) : depthStep (acc ++ [(p, m)]) o = if p = o.pr then acc ++ [(p, m + o.part)] else acc ++ [(p, m)] ++ [(o.pr, o.part)] := by
  unfold depthStep
  rw [List.getLast?_concat]
  show (if p = o.pr then (acc ++ [(p, m)]).dropLast ++ [(p, m + o.part)] else _) = _
  rw [List.dropLast_concat]
theorem depth_len : ∀ (l : List Ord) (acc : List (Int × Int)), (l.foldl depthStep acc).length ≤ acc.length + l.length
  | [], acc => Nat.le_refl _
  | o :: l, acc => by
    rw [List.foldl_cons]
    have h := depth_len l (depthStep acc o)
    have h2 : (depthStep acc o).length ≤ acc.length + 1 := by
      rcases List.eq_nil_or_concat acc with e | ⟨a, z, e⟩
      · rw [e]
        exact Nat.le_refl _
      · rw [List.concat_eq_append] at e
        obtain ⟨p, m⟩ := z
        rw [e, depth_snoc]
        by_cases c : p = o.pr
        · rw [if_pos c, List.length_append, List.length_append]
          exact Nat.le_succ _
        · rw [if_neg c, List.length_append]
          exact Nat.le_refl _
    rw [List.length_cons]
    omega
section
variable {P : Program} {w : World} {K : PySem.W.Frag} {mg : Str → Option Value} {base : Heap}
def spDepth (K : PySem.W.Frag) : Sp := fun vs H Q _ => ∃ (b d : Addr) (B : Bk) (side : Bool), vs = [.ref b, .str (sideStr side)] ∧ BookAt K H b d B ∧ Priced B.ords ∧ B.ords.length ≤ 1000 ∧
  ∀ H' r ys, L2.Same H H' → H r = none → H' r = some (.lst ys) → Paired (PrAt H') (depth B.ords side) ys → Q (.ref r) H'
theorem scDepth : FnScope ["self", "side", "found", "order"] ["self", "side"] (defScope s_B_depth) := ⟨rfl, rfl, rfl, by decide +kernel, rfl, by decide +kernel, by decide +kernel⟩
theorem w_depth (T : Tx K mg) : Mt P w K mg base CX0 3 "Book" "depth" ["self", "side"] (spDepth K) := by
  refine ⟨ok0 T.f_B_depth scDepth (fun _ _ _ _ _ _ us hl => match us, hl with | [_, _], _ => rfl) (fun vs H Q E h => ?_) (fun cdv A outer s H vs Q E hr h => ?_), T.clB, T.m_B_depth⟩
  · obtain ⟨b, d, B, side, rfl, _⟩ := h
    rfl
  · obtain ⟨b, d, B, side, rfl, hB, hpr, hlen, k⟩ := h
    have GR : Mt P w K mg base CX0 2 "Book" "row" ["self", "side"] (spRow K) := w_row T
    refine ⟨_, pss_cons (ps_set (i := 2) scDepth.nd rfl (Or.inl rfl) (pe_lst pa_nil))
      (pss_cons (ps_for PassesOwn.never rfl (pi_list (pe_mt (pv 0) GR hr pass0 (pa_cons (pv 1) pa_nil))) (pg_name (i := 3) scDepth.nd rfl (Or.inl rfl))
        (pss_one (ps_if (PW.pt (pw_and (pt_truth (pv 2) (by intro _; rfl)) (pw_and1 (pt_cmpR op_eq (pe_ix ix_tup (pe_ix ix_list (pv 2) (pe_un un_neg pe_int) (fun _ _ => rfl)) pe_int (fun _ _ => rfl)) (pe_fld (pv 3) rfl) (nomark _)))))
          (pss_one (ps_asg (pe_tup (pa_cons (pe_fld (pv 3) rfl) (pa_cons (pe_op op_add (pe_ix ix_tup (pe_ix ix_list (pv 2) (pe_un un_neg pe_int) (fun _ _ => rfl)) pe_int (fun _ _ => rfl)) (pe_fld (pv 3) rfl)) pa_nil))) (pg_sub (pv 2) (pe_un un_neg pe_int) set_list)))
          (pss_one (ps_expr (pe_bm PySem.F.plainAttrs_list PySem.F.slot_list_append PySem.F.type_list_append mt_append (pv 2) (pa_cons (pe_tup (pa_cons (pe_fld (pv 3) rfl) (pa_cons (pe_fld (pv 3) rfl) pa_nil))) pa_nil)))))))
      (pss_one (ps_ret (pv 2)))), ?_⟩
    refine ⟨by show 0 ≤ sizeLine; decide, fun p hp => ?_⟩
    have s0 := same_new (o := .lst []) hp
    have hB0 := hB.same s0
    refine ⟨_, rfl, mB hB0 rfl ⟨_, rfl, b, d, B, side, rfl, hB0.r, hpr, hlen, fun H1 r s1 hn hr1 => ⟨r, rfl, ⟨_, SqL.of hr1⟩, ?_⟩⟩⟩
    have s01 := s0.trans s1
    have nrp : r ≠ p := fun z => by
      rw [z, upd_same] at hn
      cases hn
    refine for_zs (K := K) (zs := row B.ords side) (enc := refO) (fun j σ H' => ∃ v3 ys, σ = [some (.ref b), some (.str (sideStr side)), some (.ref p), v3] ∧ SameBut p H1 H' ∧ H' p = some (.lst ys) ∧ Paired (PrAt H') (((row B.ords side).take j).foldl depthStep []) ys)
      ⟨none, [], rfl, SameBut.refl _ _, s1 _ _ upd_same, .nil⟩ (fun j σ H' _ h => by
        obtain ⟨_, _, _, sb, _⟩ := h
        exact SqL.of (sb _ _ nrp hr1)) ?_ ?_
    · rintro j o σ H2 hj ⟨v3, ys, rfl, sb, hp2, pr⟩
      obtain ⟨ho, _⟩ := row_mem.mp (List.mem_of_getElem? hj)
      have hO2 : OrdAt K H2 o := by
        obtain ⟨dx, e⟩ := (hB.os o ho).same s01
        obtain ⟨dy, ey⟩ := hB.os o ho
        exact ⟨dx, sb _ _ (ne_of_none ey hp) e⟩
      have eprice : o.price = some o.pr := hpr o ho
      have tk : (row B.ords side).take (j + 1) = (row B.ords side).take j ++ [o] := by
        rw [List.take_add_one, hj]
        rfl
      have dl := depth_len ((row B.ords side).take j) []
      have lt := List.length_take_le' j (row B.ords side)
      have rl := row_len B.ords side
      generalize hacc : ((row B.ords side).take j).foldl depthStep [] = acc at pr dl
      have fold : ((row B.ords side).take (j + 1)).foldl depthStep [] = depthStep acc o := by
        rw [tk, List.foldl_append, hacc]
        rfl
      rw [fold]
      have yl : ys.length = acc.length := paired_len pr
      have add : ∀ {D : Ends} , (∀ t H3, H2 t = none → H3 = upd H2 t (.tup [.int o.pr, .int o.part]) → D.nx [some (.ref b), some (.str (sideStr side)), some (.ref p), some (refO o)] (upd H3 p (.lst (ys ++ [.ref t])))) →
          tDrop (tBM K "list" rAppend (tVar 2) (tCons (tTup (tCons (tFld K (tVar 3) "price") (tCons (tFld K (tVar 3) "part") tNil))) tNil)) D [some (.ref b), some (.str (sideStr side)), some (.ref p), some (refO o)] H2 := fun {D} q => by
        refine ⟨_, rfl, .inl ⟨rfl, _, .inl (.inl hp2)⟩, _, rfl, ro_price T hO2 ⟨_, rfl, ro_part T hO2 ⟨by show 2 ≤ sizeLine; decide, fun t ht => ?_⟩⟩⟩
        rw [eprice]
        refine ⟨p, _, _, rfl, rfl, ?_, ?_, q t _ ht rfl⟩
        · rw [upd_ne (ne_of_none hp2 ht)]
          exact hp2
        · have h3 : (2000 : Nat) ≤ sizeLine := by decide
          simp only [List.length_nil] at dl
          omega
      have tk4 : ∀ {t : Addr} {z : HO} {l : List V}, H2 t = none → TupKeep H2 (upd (upd H2 t z) p (.lst l)) := fun {t z l} ht a xs e => by
        rw [upd_ne (ne_of e hp2 (by intro z; cases z)), upd_ne (ne_of_none e ht)]
        exact e
      have sb4 : ∀ {t : Addr} {z : HO} {l : List V}, H2 t = none → SameBut p H1 (upd (upd H2 t z) p (.lst l)) := fun {t z l} ht a u ha e => by
        rw [upd_ne ha, upd_ne (ne_of_none (sb a u ha e) ht)]
        exact sb a u ha e
      rcases List.eq_nil_or_concat acc with e | ⟨acc', z, e⟩
      · subst e
        cases pr
        refine ⟨_, rfl, _, .inl ⟨[], .inl (.inl hp2), rfl⟩, iteF (iteF (add fun t H3 ht e3 => ?_))⟩
        subst e3
        refine ⟨_, _, rfl, sb4 ht, upd_same, .cons ⟨t, rfl, ?_⟩ .nil⟩
        rw [upd_ne (ne_of_none hp2 ht).symm]
        exact upd_same
      · rw [List.concat_eq_append] at e
        obtain ⟨p0, m0⟩ := z
        subst e
        obtain ⟨ys', y, ey, pr', t0, et, ht0⟩ := paired_last pr
        subst ey et
        have ht0 : H2 t0 = some (.tup [.int p0, .int m0]) := ht0
        refine ⟨_, rfl, true, .inl ⟨_, .inl (.inl hp2), by simp⟩, iteT ?_⟩
        refine ⟨_, rfl, 1, rfl, p, _, _, _, rfl, rfl, .inl (.inl hp2), atI_last _ _, t0, _, _, .int p0, rfl, rfl, .inl (.inl ht0), rfl, _, rfl, ro_price T hO2 ?_⟩
        rw [eprice]
        refine ⟨rfl, _, rfl, ?_⟩
        rw [depth_snoc]
        by_cases c : p0 = o.pr
        · rw [if_pos c]
          refine ifYd (by rw [c]; rfl) ?_
          refine ⟨_, rfl, ro_price T hO2 ?_⟩
          rw [eprice]
          refine ⟨_, rfl, 1, rfl, p, _, _, _, rfl, rfl, .inl (.inl hp2), atI_last _ _, t0, _, _, .int m0, rfl, rfl, .inl (.inl ht0), rfl, _, rfl, ro_part T hO2 ⟨_, _, rfl, rfl, by show 2 ≤ sizeLine; decide, fun t ht => ?_⟩⟩
          have ixl : ixN (ys' ++ [V.ref t0]).length (-1) = some ys'.length := by
            unfold ixN
            rw [List.length_append, if_neg (by decide), if_pos (by show -((ys'.length + 1 : Nat) : Int) ≤ -1; omega)]
            congr 1
            show (-1 + ((ys'.length + 1 : Nat) : Int)).toNat = _
            omega
          refine ⟨_, rfl, 1, rfl, p, _, _, _, rfl, rfl, (by rw [upd_ne (ne_of_none hp2 ht)]; exact hp2), ixl, ?_⟩
          have es : (ys' ++ [V.ref t0]).set ys'.length (.ref t) = ys' ++ [.ref t] := by simp
          rw [es]
          refine ⟨_, _, rfl, sb4 ht, upd_same, paired_snoc (prs_keep pr' (tk4 ht)) ⟨t, rfl, ?_⟩⟩
          rw [upd_ne (ne_of_none hp2 ht).symm, upd_same, c]
          rfl
        · rw [if_neg c]
          refine ifNd (fun z => c (V.int.inj z)) (add fun t H3 ht e3 => ?_)
          subst e3
          refine ⟨_, _, rfl, sb4 ht, upd_same, paired_snoc (prs_keep pr (tk4 ht)) ⟨t, rfl, ?_⟩⟩
          rw [upd_ne (ne_of_none hp2 ht).symm]
          exact upd_same
    · rintro σ H2 ⟨v3, ys, rfl, sb, hp2, pr⟩
      rw [List.take_length] at pr
      exact ⟨_, rfl, k H2 p ys (fun a o e => sb a o (ne_of_none e hp) (s01 a o e)) hp hp2 pr⟩
end
end FB

set_option maxRecDepth 100000
set_option maxHeartbeats 4000000
/-! What the laws share: an error kept under a name, the laws' numbers. -/
namespace FB
open PySem PySem.Spec PyProof.Rows L2
/-! ### try: .. except C as e: kept = e -/
/-- an error of the class cls that was kept under a name -/
def ErrAt (cls : Value) (a : Addr) (h : Heap) : Prop := ∃ o, h.get? a = some o ∧ Zc cls none o ∧ ∃ vs, o.data = .fields vs
def ExK (cls : Value) (a : Addr) : HO := .ext (ErrAt cls a)
theorem track {X : Cx} {pins : List (Addr × Obj)} {σ : L2.St} {H : Hp} {s : Shared} {a : Addr} {cls : Value} (I : Inv X pins σ H s) (hE : ErrAt cls a s.heap) (na : H a = none) (old : X.s_0.heap.get? a = none) (nL : a ≠ X.env.locals)
    (np : ∀ p ∈ X.pn ++ pins, p.1 ≠ a) : Inv X pins σ (upd H a (ExK cls a)) s where
  ok := I.ok
  os := I.os
  bare := I.bare
  base := ⟨I.base.keep, I.base.slot, fun b o e n hx => by
      have hb : b ≠ a := fun z => by
        rw [z, old] at e
        cases e
      rw [upd_ne hb]
      exact I.base.free b o e n hx, I.base.there, fun b xs e => by
      have q := I.base.tups b xs e
      rw [upd_ne (ne_of_none q na)]
      exact q, fun b o u e => by
      have q := I.base.frzs b o u e
      rw [upd_ne (ne_of_none q na)]
      exact q, fun b ps e => by
      obtain ⟨more, q⟩ := I.base.tbls b ps e
      exact ⟨more, by rw [upd_ne (ne_of_none q na)]; exact q⟩⟩
  loc := I.loc
  cell := I.cell
  free := by
    rw [upd_ne (Ne.symm nL)]
    exact I.free
  freeC := fun x c e => by
    have hc : c ≠ a := fun z => by
      obtain ⟨v, u, hu, hd⟩ := I.cell x c e
      obtain ⟨o, ho, _, vs, hv⟩ := hE
      rw [z] at hu
      have eo : u = o := Option.some.inj (hu.symm.trans ho)
      rw [eo, hv] at hd
      cases hd
    rw [upd_ne hc]
    exact I.freeC x c e
  pin := fun p hp => by
    obtain ⟨h1, h2, h3⟩ := I.pin p hp
    exact ⟨h1, by rw [upd_ne (np p hp)]; exact h2, h3⟩
  hok := fun b u e => by
    by_cases hb : b = a
    · subst hb
      rw [upd_same] at e
      cases e
      obtain ⟨o, ho, hz, hv⟩ := hE
      exact ⟨⟨o, ho, hz, hv⟩, ⟨o, ho⟩, fun h1 h2 ⟨o1, e1, r⟩ k => ⟨o1, k o1 e1, r⟩⟩
    · rw [upd_ne hb] at e
      exact (I.hok b u e).stay (fun _ _ _ q => q) (fun c q => by rw [upd_ne (ne_of_none q na)]; exact q) fun c xs q => by rw [upd_ne (ne_of_none q na)]; exact q
  len := I.len
/-- what is wished of an error in the body: the clause takes it, and it is kept -/
def wKept (K : PySem.W.Frag) (c : Value) (i j : Nat) (D : Ends) : WX := fun cls d σ H => d = none ∧ PySem.W.exmOne K cls c = some true ∧
  ∀ a, H a = none → D.nx (((σ.set i (some (.ref a))).set j (some (.ref a))).set i none) (upd H a (ExK cls a))
section
variable {X : Cx} {x n m : Str} {c : Value} {i j : Nat} {body : List Stmt} {np p1 p2 p3 pos pos' : Pos} {tb : WX → TS}
theorem ps_kept (hs : X.stack = X.env :: X.outer) (hf : X.env.frame = some X.env.locals) (hx : X.ex = []) (hN : X.N.Nodup) (hi : X.N[i]? = some n) (hj : X.N[j]? = some m) (ln : X.env.kindOf n = some .local) (lm : X.env.kindOf m = some .local)
    (hlen : i < X.N.length) (hdb : (n == ("__debug__" : Str)) = false) (hcd : (n == ("__classdict__" : Str)) = false) (hsw : ∀ E : Env, swapsWith (.Name n p2) (some (.Name m p1)) p3.line E = pure false) (hc : Names X x c)
    (hb : ∀ (W : WX) (pn : List (Addr × Obj)) (xe : Value → Shared → Prop), Takes (X.tr pn xe) W → PassesOwn (model X.prog X.w) X.A X.env xe → PSs (X.tr pn xe) body (tb W)) :
    PS X (.Try body [.ExceptHandler (some (.Name x np)) (some n) [.Assign [.Name m p1] (.Name n p2) p3] pos'] [] [] pos) (fun D σ H => tb (wKept X.K c i j D) D σ H) := by
  constructor
  intro pins s σ H D I h
  have ok := I.ok
  have hfr : X.A.frames = some (X.env :: X.outer) := by rw [ok.frames, hs]
  have hF : frs X.stack = X.env.locals :: X.fs := by
    rw [hs]
    show (X.env :: X.outer).filterMap (·.frame) = _
    rw [List.filterMap_cons, hf]
    rfl
  refine wpAny_Try_except (wpAny_mono ((hb (wKept X.K c i j D) (X.pn ++ pins) (fun e s₁ => wpAny (model X.prog X.w) X.A (noteFrame e X.env) (fun _ s₂ => wpAny (model X.prog X.w) X.A (setFlight e none) (fun _ s₃ =>
    wpAny (model X.prog X.w) X.A (handleBy e X.env [.ExceptHandler (some (.Name x np)) (some n) [.Assign [.Name m p1] (.Name n p2) p3] pos']) (SP X pins D) X.xe s₃) X.xe s₂) X.xe s₁) (fun u s' air => ?_) PassesOwn.looking).run [] s σ H D (I.toTry _) h) (fun f s1 out => ?_) (fun _ _ z => z))
  · obtain ⟨a, B, sI, pins', τ, G, cls, d, rfl, J', nb, up, sky, na, os, ag, rfl, yes, q⟩ := air
    have J : Inv X pins τ G sI := J'.ofTry ok
    rw [hs] at sky
    refine Sky.land Zc.steady hfr hf sky fun h3 fl up3 => ?_
    have gone : B.get? a = none := fl.2.1
    have was : ∀ b o, sI.heap.get? b = some o → b ∉ frs X.stack → b ≠ a := fun b o e hb z => by
      have := nb b o e hb
      rw [z, gone] at this
      cases this
    have apart : ∀ {g : Heap}, HandSPX.FlyingZ B (X.env :: X.outer) a (Zc cls none) g → ErrAt cls a g ∧ a ∉ frs X.stack := fun {g} z => by
      obtain ⟨oe, vs, he, hz, hd⟩ := z.there
      refine ⟨⟨oe, he, hz, vs, hd⟩, fun hm => ?_⟩
      rw [hs] at hm
      obtain ⟨_, o', e', nf⟩ := z.2.2.1.mem hm
      rw [he] at e'
      cases e'
      exact nf _ hd
    obtain ⟨⟨o3, g3, z3, d3⟩, out3⟩ := apart fl
    have nL : a ≠ X.env.locals := fun z => out3 (by rw [hF, z]; exact List.mem_cons_self)
    have nF : a ∉ X.fs := fun z => out3 (by rw [hF]; exact List.mem_cons_of_mem _ z)
    have old : X.s_0.heap.get? a = none := by
      cases e : X.s_0.heap.get? a with
      | none => rfl
      | some o =>
        obtain ⟨o', e'⟩ := J.base.there a o e (by rw [hx]; intro z; cases z)
        exact (was a o' e' out3 rfl).elim
    have npin : ∀ p ∈ X.pn ++ pins, p.1 ≠ a := fun p hp => by
      obtain ⟨e, _, r1, r2, _⟩ := J.pin p hp
      exact was p.1 p.2 e fun z => by
        rw [hF] at z
        rcases List.mem_cons.mp z with z | z
        · exact r1 z
        · exact r2 z
    obtain ⟨v3, d3⟩ := d3
    have S3 := (J.landed (s' := { s' with heap := h3 }) nb fl.1 (up.trans up3) os ag).suite g3 d3 na nL nF
    refine wpAny_handleBy_cons (codeAny_handlers_test ?_) (by intro q; cases q)
    have ask := PySem.W.exm_one (M := model X.prog X.w) S3.kIn (fun A Q E s k q => wpAny_typeOf_ref (k _ _ g3) (by rw [z3.1]; exact q)) yes
    have named : ∀ {Q : Value → Shared → Prop} {E : Value → Shared → Prop}, Q c { s' with heap := h3 } → wpAny (model X.prog X.w) (X.A.mark (some (.ref a))) (eval (.Name x np) X.env) Q E { s' with heap := h3 } := fun {Q E} r => by
      obtain ⟨hg, hd, k⟩ := hc
      rcases k with k | ⟨k, kv, kn⟩
      · exact ld_glob (X := X.suite a ((a, o3) :: (X.pn ++ pins))) S3 hg k r hd
      · exact ld_blt (X := X.suite a ((a, o3) :: (X.pn ++ pins))) S3 hg k kv r kn hd
    refine named (ask.here (codeAny_handlers_suite_as (HandSPX.lands_againZ fl fun h4 fl4 up4 => ?_)))
    obtain ⟨⟨o4, g4, z4, v4, d4⟩, _⟩ := apart fl4
    have S4 := (J.landed (s' := { s' with heap := h4 }) nb fl4.1 ((up.trans up3).trans up4) os ag).suite g4 d4 na nL nF
    refine store_ok (X := X.suite a ((a, o4) :: (X.pn ++ pins))) (v := .ref a) S4 hN hi (Or.inl ln) rfl (fun s5 S5 => ?_) (.inr ln)
    have li : i < τ.length := by
      rw [J.len]
      exact hlen
    have keep : PSs (X.suite a ((a, o4) :: (X.pn ++ pins))) [.Assign [.Name m p1] (.Name n p2) p3] (tAsg (tVar i) (gName j)) := pss_one (ps_set (X := X.suite a ((a, o4) :: (X.pn ++ pins))) hN hj (Or.inl lm) (pv i hi (Or.inl ln) hdb hcd) (hsw _) (.inr lm))
    refine wpAny_mono (keep.run [] s5 _ G ⟨fun τ' G' => τ' = (τ.set i (some (.ref a))).set j (some (.ref a)) ∧ G' = G, fun _ _ => False, fun _ _ => False, fun _ _ => False⟩ S5 ⟨.ref a, List.getElem?_set_self li, rfl, rfl⟩) (fun f s6 z => ?_) (fun _ _ z => z.elim)
    cases f with
    | next =>
      obtain ⟨_, _, S6, rfl, rfl⟩ := z
      obtain ⟨g6, n6, _⟩ := S6.pin (a, o4) (List.mem_append.mpr (.inl List.mem_cons_self))
      refine gone_ok (track (S6.unsuite ok) ⟨o4, g6, z4, v4, d4⟩ n6 old nL npin) hN hi ln fun s7 I7 => ⟨_, _, I7, q a na⟩
    | ret u =>
      obtain ⟨_, _, _, _, _, z⟩ := z
      exact z.elim
    | brk =>
      obtain ⟨_, _, _, z⟩ := z
      exact z.elim
    | cont =>
      obtain ⟨_, _, _, z⟩ := z
      exact z.elim
  · cases f with
    | next =>
      obtain ⟨τ, G, J, q⟩ := out
      exact wpAny_execs_nil ⟨τ, G, J.ofTry ok, q⟩
    | ret u =>
      obtain ⟨v, τ, G, J, r, q⟩ := out
      exact ⟨v, τ, G, J.ofTry ok, r, q⟩
    | brk =>
      obtain ⟨τ, G, J, q⟩ := out
      exact ⟨τ, G, J.ofTry ok, q⟩
    | cont =>
      obtain ⟨τ, G, J, q⟩ := out
      exact ⟨τ, G, J.ofTry ok, q⟩
end
/-! ### a statement behind which several ways meet -/
def tMid (t : TS) : TS := fun D σ H => ∃ M : L2.St → Hp → Prop, t { D with nx := M } σ H ∧ ∀ σ' H', M σ' H' → D.nx σ' H'
theorem ps_mid {X : Cx} {st : Stmt} {t : TS} (h : PS X st t) : PS X st (tMid t) := by
  constructor
  intro pins s σ H D I ⟨M, h1, h2⟩
  refine wpAny_mono (h.run pins s σ H { D with nx := M } I h1) (fun f s1 q => ?_) (fun _ _ z => z)
  cases f with
  | next =>
    obtain ⟨σ', H', I', q⟩ := q
    exact ⟨σ', H', I', h2 _ _ q⟩
  | ret u => exact q
  | brk => exact q
  | cont => exact q
/-! ### isinstance of a kept error -/
def rIsX (K : PySem.W.Frag) : List V → Hp → VK → Prop := fun xs H Q => ∃ (a D : Addr) (c : V) (cv : Value) (b : Bool), xs = [.ref a, c] ∧ H a = some (ExK (.ref D) a) ∧ ExcC K D ∧ ClsV c cv ∧ PySem.W.kitOne K (.ref D) cv = some b ∧ Q (.bl b) H
theorem errAt_inst {h : Heap} {a D : Addr} (e : ErrAt (.ref D) a h) : ∃ o, PySem.W.InstAt h a o D none := by
  obtain ⟨⟨oc, od, oda, osl⟩, ho, ⟨h1, h2⟩, vs, hv⟩ := e
  dsimp only at h1 h2 hv
  subst h1 h2 hv
  exact ⟨_, ho, rfl, rfl, trivial⟩
theorem call_isX {X : Cx} : CallR X (.builtin "isinstance") (rIsX X.K) := by
  intro pins s σ H xs us Q I r h
  obtain ⟨a, D, c, cv, b, rfl, ha, C, k, e, q⟩ := h
  obtain ⟨u1, u2, rfl, r1, r2⟩ := vals2 r
  cases (show u1 = Value.ref a from r1)
  have e2 := k.eq r2
  subst e2
  obtain ⟨o, J⟩ := errAt_inst (show ErrAt (.ref D) a s.heap from (I.hok a _ ha).1)
  exact PySem.W.kia_one (PySem.W.handS_kitx_exc C.hg C.hk C.hs C.hd C.ha C.hn C.ht C.hm) I.kIn J e (fun z => nomatch z) fun tk => ⟨.bl b, H, I.tok tk, rfl, q⟩
/-! ### how often True stands in a list of bools -/
def rCntB (K : PySem.W.Frag) : V → List V → Hp → VK → Prop := fun x xs H Q => ∃ (p : Addr) (bs : List Bool), x = .ref p ∧ xs = [.bl true] ∧ SqL K H p (bs.map V.bl) ∧ Q (.int (countIn (.bool true) (bs.map PyData.bool))) H
theorem reads_bools {h : Heap} : ∀ {bs : List Bool} {us : List Value}, Vals (bs.map V.bl) us → ∃ as, ReadsAll h us (bs.map PyData.bool) as
  | [], _, r => by
    have r' : Vals [] _ := r
    cases r'
    exact ⟨_, ReadsAll.nil⟩
  | b :: bs, _, r => by
    have r' : Vals (V.bl b :: bs.map V.bl) _ := r
    cases r' with
    | cons r1 r2 =>
      obtain ⟨as, q⟩ := reads_bools (h := h) r2
      cases r1
      exact ⟨_, ReadsAll.cons (Reads.bool b) q⟩
theorem mt_cntB {X : Cx} : MtR X "list.count" (rCntB X.K) := by
  intro pins s σ H x xs v us Q I rx rxs h
  obtain ⟨p, bs, rfl, rfl, hs, q⟩ := h
  cases rx
  obtain ⟨u, rfl, ru⟩ := rxs.one
  cases (show u = Value.bool true from ru)
  obtain ⟨its, rv, hl, hlen⟩ := I.list hs
  obtain ⟨as, ra⟩ := reads_bools (h := s.heap) rv
  refine PyProof.Rows.count_list_bools hl.isList ra (List.all_eq_true.mpr fun d hd => ?_) ⟨.int _, H, I.tok _, ⟨_, rfl⟩, q⟩
  obtain ⟨b, _, e⟩ := List.mem_map.mp hd
  rw [← e]
  rfl
section
variable {P : Program} {w : World} {K : PySem.W.Frag} {mg : Str → Option Value} {base : Heap}
/-! ### the script's numbers -/
def spLCell (K : PySem.W.Frag) : Sp := fun vs H Q _ => ∃ (a : Addr) (ns : List Int) (k : Int), vs = [.ref a, .int k] ∧ SqL K H a (ns.map V.int) ∧ 0 ≤ k ∧ ∀ z : Int, Q (.int z) H
theorem scLCell : FnScope ["_law_script", "_law_k"] ["_law_script", "_law_k"] (defScope s_l_cell) := ⟨rfl, rfl, rfl, by decide +kernel, rfl, by decide +kernel, by decide +kernel⟩
theorem atI_nat {xs : List V} {j : Nat} {v : V} (h : xs[j]? = some v) : atI xs ((j : Nat) : Int) = some v := by
  have hj := (List.getElem?_eq_some_iff.mp h).1
  have e : ixN xs.length ((j : Nat) : Int) = some j := by
    unfold ixN
    rw [if_pos (by omega), if_pos (by omega)]
    all_goals rfl
  unfold atI
  rw [e]
  exact h
theorem atI_in {xs : List V} {i : Int} (h0 : 0 ≤ i) (h1 : i < (xs.length : Nat)) : ∃ v ∈ xs, atI xs i = some v := by
  obtain ⟨j, rfl⟩ := Int.eq_ofNat_of_zero_le h0
  have hj : j < xs.length := by omega
  exact ⟨xs[j], List.getElem_mem hj, atI_nat (List.getElem?_eq_getElem hj)⟩
theorem atI_ints {ns : List Int} {i : Int} (h0 : 0 ≤ i) (h1 : i < ((ns.map V.int).length : Nat)) : ∃ z, atI (ns.map V.int) i = some (.int z) := by
  obtain ⟨v, hv, e⟩ := atI_in h0 h1
  obtain ⟨z, _, rfl⟩ := List.mem_map.mp hv
  exact ⟨z, e⟩
theorem w_l_cell (T : Tx K mg) : Fn P w K mg base CX0 1 "_law_cell" ["_law_script", "_law_k"] (spLCell K) := by
  refine ⟨ok0 T.f_l_cell scLCell (fun _ _ _ _ _ _ us hl => match us, hl with | [_, _], _ => rfl) (fun vs H Q E h => ?_) (fun cdv A outer s H vs Q E hr h => ?_), T.g_l_cell, ?_⟩
  · obtain ⟨a, ns, k, rfl, _⟩ := h
    rfl
  · obtain ⟨a, ns, k, rfl, hs, hk, q⟩ := h
    refine ⟨_, pss_cons (ps_if (pt_truth (pv 0) (by intro _; rfl)) (pss_one (ps_ret (pe_ix ix_seq (pv 0) (pe_op op_mod (pv 1) (pe_callB call_len (by rfl) T.z_len boot_len (pa_cons (pv 0) pa_nil))) fun _ _ => rfl))) pss_nil) (pss_one (ps_ret pe_int)), ?_⟩
    refine ⟨_, rfl, _, .inl ⟨_, hs, rfl⟩, ?_⟩
    cases ns with
    | nil => exact q 0
    | cons n ns =>
      refine iteT ⟨_, rfl, _, rfl, _, rfl, _, _, rfl, .inl ⟨_, hs, rfl⟩, _, _, rfl, rfl, ?_, ?_⟩
      · show (0 : Int) < (((n :: ns).map V.int).length : Nat)
        rw [List.length_map, List.length_cons]
        omega
      · have hm := Int.emod_nonneg k (b := (((n :: ns).map V.int).length : Nat)) (by rw [List.length_map, List.length_cons]; omega)
        have hm2 := Int.emod_lt_of_pos k (b := (((n :: ns).map V.int).length : Nat)) (by rw [List.length_map, List.length_cons]; omega)
        obtain ⟨z, hz⟩ := atI_ints (ns := n :: ns) hm hm2
        exact .inl ⟨_, _, _, _, rfl, rfl, hs, hz, q z⟩
  · obtain ⟨fd, F⟩ := T.f_l_cell
    exact F.kp
theorem pos_lit {j : Int} (h : 0 < j) : 0 < j := h
/-- a number of the law's -/
def spMix (K : PySem.W.Frag) : Sp := fun vs H Q _ => ∃ (a : Addr) (ns : List Int) (k : Int), vs = [.ref a, .int k] ∧ SqL K H a (ns.map V.int) ∧ 0 ≤ k ∧ ∀ z : Int, 0 ≤ z → z < 4294967231 → Q (.int z) H
theorem scMix : FnScope ["_law_script", "_law_k", "_law_number"] ["_law_script", "_law_k"] (defScope s_l_mix) := ⟨rfl, rfl, rfl, by decide +kernel, rfl, by decide +kernel, by decide +kernel⟩
theorem w_l_mix (T : Tx K mg) : Fn P w K mg base CX0 2 "_law_mix" ["_law_script", "_law_k"] (spMix K) := by
  refine ⟨ok0 T.f_l_mix scMix (fun _ _ _ _ _ _ us hl => match us, hl with | [_, _], _ => rfl) (fun vs H Q E h => ?_) (fun cdv A outer s H vs Q E hr h => ?_), T.g_l_mix, ?_⟩
  · obtain ⟨a, ns, k, rfl, _⟩ := h
    rfl
  · obtain ⟨a, ns, k, rfl, hs, hk, q⟩ := h
    have GC : Fn P w K mg base CX0 1 "_law_cell" ["_law_script", "_law_k"] (spLCell K) := w_l_cell T
    refine ⟨_, pss_cons (ps_set (i := 2) scMix.nd rfl (Or.inl rfl) (pe_op op_mod (pe_op op_add (pe_fn GC hr rfl pass0 (pa_cons (pv 0) (pa_cons (pv 1) pa_nil))) (pe_op op_mul pe_int (pe_op op_add (pv 1) pe_int))) pe_int))
      (pss_cons (ps_set (i := 2) scMix.nd rfl (Or.inl rfl) (pe_op op_mod (pe_op op_mul (pv 2) pe_int) pe_int))
      (pss_one (ps_ret (pe_op op_mod (pe_op op_add (pe_op op_mul (pe_op op_fdiv (pv 2) pe_int) pe_int) (pv 2)) pe_int)))), ?_⟩
    refine ⟨_, rfl, _, rfl, a, ns, k, rfl, hs, hk, fun z => ?_⟩
    refine ⟨_, rfl, _, _, rfl, rfl, _, _, rfl, rfl, .inl ⟨by decide, by decide⟩, _, _, rfl, rfl, _, _, rfl, rfl, pos_lit (by decide), ?_⟩
    refine ⟨_, rfl, _, _, rfl, rfl, .inr ⟨by decide, by decide⟩, _, _, rfl, rfl, pos_lit (by decide), ?_⟩
    refine ⟨_, rfl, _, _, rfl, rfl, ⟨by decide, by decide⟩, _, _, rfl, rfl, .inr ⟨by decide, by decide⟩, _, rfl, _, _, rfl, rfl, _, _, rfl, rfl, pos_lit (by decide), ?_⟩
    exact q _ (Int.emod_nonneg _ (by decide)) (Int.emod_lt_of_pos _ (by decide))
  · obtain ⟨fd, F⟩ := T.f_l_mix
    exact F.kp
theorem same_seqL {H H' : Hp} {a : Addr} {xs : List V} (e : L2.Same H H') (h : SqL K H a xs) : SqL K H' a xs := by
  rcases h with (h | ⟨o, h⟩) | h
  · exact .inl (.inl (e _ _ h))
  · exact .inl (.inr ⟨o, e _ _ h⟩)
  · exact .inr h
theorem same_free {H H' : Hp} {p : Addr} (e : L2.Same H H') (h : H' p = none) : H p = none := by
  cases q : H p with
  | none => rfl
  | some o =>
    rw [e p o q] at h
    cases h
theorem tdm {i : Nat} {σ : L2.St} {H : Hp} {Q : VK} {n d m : Int} (h : σ[i]? = some (some (V.int n))) (hd : CDiv n d) (hm : 0 < m) (q : Q (.int (n / d % m)) H) :
    tOp (rI (fun _ j => 0 < j) fun i j => .int (i % j)) (tOp (rI CDiv fun i j => .int (i / j)) (tVar i) (tC (.int d))) (tC (.int m)) σ H Q := ⟨_, h, _, _, rfl, rfl, hd, _, _, rfl, rfl, hm, q⟩
/-- a price of the law's -/
def spLPrice (K : PySem.W.Frag) : Sp := fun vs H Q _ => ∃ (a : Addr) (ns : List Int) (k : Int), vs = [.ref a, .int k] ∧ SqL K H a (ns.map V.int) ∧ 0 ≤ k ∧ ∀ (z : Int) H', L2.Same H H' → Q (.int z) H'
theorem scLPrice : FnScope ["_law_script", "_law_k", "_law_number", "_law_base"] ["_law_script", "_law_k"] (defScope s_l_price) := ⟨rfl, rfl, rfl, by decide +kernel, rfl, by decide +kernel, by decide +kernel⟩
theorem w_l_price (T : Tx K mg) : Fn P w K mg base CX0 3 "_law_price" ["_law_script", "_law_k"] (spLPrice K) := by
  refine ⟨ok0 T.f_l_price scLPrice (fun _ _ _ _ _ _ us hl => match us, hl with | [_, _], _ => rfl) (fun vs H Q E h => ?_) (fun cdv A outer s H vs Q E hr h => ?_), T.g_l_price, ?_⟩
  · obtain ⟨a, ns, k, rfl, _⟩ := h
    rfl
  · obtain ⟨a, ns, k, rfl, hs, hk, q⟩ := h
    have GM : Fn P w K mg base CX0 2 "_law_mix" ["_law_script", "_law_k"] (spMix K) := w_l_mix T
    refine ⟨_, pss_cons (ps_set (i := 2) scLPrice.nd rfl (Or.inl rfl) (pe_fn GM hr rfl pass0 (pa_cons (pv 0) (pa_cons (pv 1) pa_nil))))
      (pss_cons (ps_set (i := 3) scLPrice.nd rfl (Or.inl rfl) (pe_op op_add pe_int (pe_op op_mod (pe_fn GM hr rfl pass0 (pa_cons (pv 0) (pa_cons pe_int pa_nil))) pe_int)))
      (pss_one (ps_ret (pe_ix ix_seq (pe_lst (pa_cons (pe_op op_add (pv 3) (pe_op op_mod (pe_op op_fdiv (pv 2) pe_int) pe_int)) (pa_cons (pe_op op_add (pv 3) (pe_op op_mod (pe_op op_fdiv (pv 2) pe_int) pe_int)) (pa_cons (pv 3) (pa_cons pe_int (pa_cons pe_int (pa_cons (pe_op op_add (pv 3) (pe_op op_mod (pe_op op_fdiv (pv 2) pe_int) pe_int)) pa_nil)))))))
        (pe_op op_mod (pv 2) pe_int) fun _ _ => rfl)))), ?_⟩
    refine ⟨_, rfl, _, rfl, a, ns, k, rfl, hs, hk, fun n h0 h1 => ?_⟩
    refine ⟨_, rfl, a, ns, 3, rfl, hs, by decide, fun z _ _ => ?_⟩
    refine ⟨_, _, rfl, rfl, pos_lit (by decide), _, _, rfl, rfl, ?_⟩
    refine ⟨_, rfl, _, rfl, _, _, rfl, rfl, ⟨by decide, by decide⟩, _, _, rfl, rfl, pos_lit (by decide), _, _, rfl, rfl, ?_⟩
    refine ⟨_, rfl, _, rfl, _, _, rfl, rfl, ⟨by decide, by decide⟩, _, _, rfl, rfl, pos_lit (by decide), _, _, rfl, rfl, ?_⟩
    refine ⟨_, rfl, _, rfl, _, rfl, _, _, rfl, rfl, ⟨by decide, by decide⟩, _, _, rfl, rfl, pos_lit (by decide), _, _, rfl, rfl, ?_⟩
    refine ⟨by show 6 ≤ sizeLine; decide, fun p hp => ⟨_, rfl, _, _, rfl, rfl, pos_lit (by decide), ?_⟩⟩
    obtain ⟨y, hy⟩ := atI_ints (ns := [1 + z % 999999980 + n / 8 % 6, 1 + z % 999999980 + n / 8 % 6, 1 + z % 999999980, 1, 1000000000, 1 + z % 999999980 + n / 8 % 15]) (Int.emod_nonneg n (b := 6) (by decide)) (Int.emod_lt_of_pos n (b := 6) (by decide))
    exact .inl ⟨_, _, _, _, rfl, rfl, .inl (.inl upd_same), hy, q y _ (same_new hp)⟩
  · obtain ⟨fd, F⟩ := T.f_l_price
    exact F.kp
theorem kd_seqL {d : Addr} {H H' : Hp} {a : Addr} {xs : List V} (k : Kd d H H') (hd : ∃ kvs, H d = some (.dK kvs)) (h : SqL K H a xs) : SqL K H' a xs := by
  obtain ⟨kvs, e⟩ := hd
  rcases h with (h | ⟨o, h⟩) | h
  · exact .inl (.inl (k a _ h rfl (ne_of h e (by intro z; cases z))))
  · exact .inl (.inr ⟨o, k a _ h rfl (ne_of h e (by intro z; cases z))⟩)
  · exact .inr h
/-- a law: over every base -/
theorem okL {x q : Str} {st : Stmt} {N ps : List Str} {k : Nat} {sp : Sp} {f : Addr} (F : FD K x q st f) (S : FnScope N ps (defScope st)) (hb : BindsAll x q st ps) (len : ∀ vs H Q E, sp vs H Q E → vs.length = ps.length)
    (hbody : ∀ (base : Heap) (cdv : Value) (A : Around) (outer : List Env) (s : Shared) (H : Hp) (vs : List V) (Q : VK) (E : XK), Room k (A.deeper (envOfC q (defScope st) s.heap.objs.size f cdv)) → sp vs H Q E →
      ∃ t, PSs (cxOf CX0 P w K mg base N q (defScope st) f cdv A outer s H E).nox (defBody st) t ∧ t { nx := fun _ H' => Q .non H', rt := Q } (start N vs) H) :
    ∃ fd, Binds K fd ps [] ∧ FunD K x q (defArgs st) (defBody st) (defScope st) [] [] f fd ∧ ∀ base, FnOk P w K mg base CX0 (k + 1) f fd ps sp := by
  obtain ⟨fd, G⟩ := F
  refine ⟨fd, FunD.bindsN G hb, G, fun base => FunD.ok (CX := CX0) G S len (fun cdv A outer s H vs Q E hr hsp => ?_)⟩
  obtain ⟨t, h, q⟩ := hbody base cdv A outer s H vs Q E hr hsp
  exact ⟨t, h.nox, q⟩
/-- what every law promises -/
def spLaw (K : PySem.W.Frag) : Sp := fun vs H Q _ => ∃ (a : Addr) (ns : List Int), vs = [.ref a] ∧ ns.length ≤ 63 ∧ SqL K H a (ns.map V.int) ∧ ∀ H', Q (.bl true) H'
/-! ### the law's deeds -/
inductive Deed where
  | place (owner : Int) (buy : Bool) (price : Option Int) (many : Int) (shows : Option Int) (way : Way)
  | cancel (n : Int) | change (n m : Int) | call | uncross
def Deed.At : Deed → List V → Prop
  | .place o b p m s y, xs => xs = [.str "place", .int o, .str (sideStr b), optV p, .int m, optV s, .str y.str]
  | .cancel n, xs => ∃ m, xs = [.str "cancel", .int n, .int m]
  | .change n m, xs => xs = [.str "change", .int n, .int m]
  | .call, xs => ∃ l, xs = .str "call" :: l
  | .uncross, xs => ∃ l, xs = .str "uncross" :: l
def spLDeed (K : PySem.W.Frag) : Sp := fun vs H Q _ => ∃ (a : Addr) (ns : List Int) (k : Int), vs = [.ref a, .int k] ∧ SqL K H a (ns.map V.int) ∧ 0 ≤ k ∧
  ∀ (dd : Deed) (xs : List V) t H', L2.Same H H' → dd.At xs → H t = none → H' t = some (.tup xs) → Q (.ref t) H'
theorem scLDeed : FnScope ["_law_script", "_law_k", "_law_number", "_law_word", "_law_many", "_law_way", "_law_price_here", "_law_shows"] ["_law_script", "_law_k"] (defScope s_l_deed) := ⟨rfl, rfl, rfl, by decide +kernel, rfl, by decide +kernel, by decide +kernel⟩
theorem at_words {n : Int} : ∃ wd : Str, atI [V.str "place", V.str "place", V.str "place", V.str "place", V.str "place", V.str "place", V.str "cancel", V.str "change", V.str "call", V.str "uncross"] (n % 10) = some (V.str wd) ∧
    (wd = "place" ∨ wd = "cancel" ∨ wd = "change" ∨ wd = "call" ∨ wd = "uncross") := by
  obtain ⟨v, hv, e⟩ := atI_in (xs := [V.str "place", V.str "place", V.str "place", V.str "place", V.str "place", V.str "place", V.str "cancel", V.str "change", V.str "call", V.str "uncross"]) (Int.emod_nonneg n (b := 10) (by decide)) (Int.emod_lt_of_pos n (b := 10) (by decide))
  rw [e]
  simp only [List.mem_cons, List.not_mem_nil, or_false] at hv
  rcases hv with e | e | e | e | e | e | e | e | e | e <;> rw [e] <;> exact ⟨_, rfl, by decide⟩
theorem at_ways {i : Int} (h0 : 0 ≤ i) (h1 : i < 5) : ∃ wy : Way, atI [V.str "rest", V.str "rest", V.str "rest", V.str "now", V.str "whole"] i = some (V.str wy.str) := by
  obtain ⟨v, hv, e⟩ := atI_in (xs := [V.str "rest", V.str "rest", V.str "rest", V.str "now", V.str "whole"]) h0 h1
  rw [e]
  simp only [List.mem_cons, List.not_mem_nil, or_false] at hv
  rcases hv with e | e | e | e | e <;> rw [e]
  · exact ⟨.rest, rfl⟩
  · exact ⟨.rest, rfl⟩
  · exact ⟨.rest, rfl⟩
  · exact ⟨.now, rfl⟩
  · exact ⟨.whole, rfl⟩
theorem at_sides {i : Int} (h0 : 0 ≤ i) (h1 : i < 2) : ∃ b : Bool, atI [V.str "buy", V.str "sell"] i = some (V.str (sideStr b)) := by
  obtain ⟨v, hv, e⟩ := atI_in (xs := [V.str "buy", V.str "sell"]) h0 h1
  rw [e]
  simp only [List.mem_cons, List.not_mem_nil, or_false] at hv
  rcases hv with e | e <;> rw [e]
  · exact ⟨true, rfl⟩
  · exact ⟨false, rfl⟩
theorem w_l_deed (T : Tx K mg) : Fn P w K mg base CX0 4 "_law_deed" ["_law_script", "_law_k"] (spLDeed K) := by
  refine ⟨ok0 T.f_l_deed scLDeed (fun _ _ _ _ _ _ us hl => match us, hl with | [_, _], _ => rfl) (fun vs H Q E h => ?_) (fun cdv A outer s H vs Q E hr h => ?_), T.g_l_deed, ?_⟩
  · obtain ⟨a, ns, k, rfl, _⟩ := h
    rfl
  · obtain ⟨a, ns, k, rfl, hs, hk, q⟩ := h
    have GM : Fn P w K mg base CX0 2 "_law_mix" ["_law_script", "_law_k"] (spMix K) := w_l_mix T
    have GP : Fn P w K mg base CX0 3 "_law_price" ["_law_script", "_law_k"] (spLPrice K) := w_l_price T
    have hr1 := hr.mono (j := 2) (by decide)
    refine ⟨_, pss_cons (ps_set (i := 2) scLDeed.nd rfl (Or.inl rfl) (pe_fn GM hr1 rfl pass0 (pa_cons (pv 0) (pa_cons (pv 1) pa_nil))))
      (pss_cons (ps_set (i := 3) scLDeed.nd rfl (Or.inl rfl) (pe_ix ix_seq (pe_lst (pa_cons pe_str (pa_cons pe_str (pa_cons pe_str (pa_cons pe_str (pa_cons pe_str (pa_cons pe_str (pa_cons pe_str (pa_cons pe_str (pa_cons pe_str (pa_cons pe_str pa_nil))))))))))) (pe_op op_mod (pv 2) pe_int) fun _ _ => rfl))
      (pss_cons (ps_if (pt_cmpR op_ne (pv 3) pe_str (nomark _)) (pss_one (ps_ret (pe_tup (pa_cons (pv 3) (pa_cons (pe_op op_mod (pe_op op_fdiv (pv 2) pe_int) pe_int)
        (pa_cons (pe_ix ix_seq (pe_lst (pa_cons (pe_op op_mod (pe_op op_fdiv (pv 2) pe_int) pe_int) (pa_cons pe_int pa_nil))) (pe_op op_fdiv (pe_op op_mod (pe_op op_fdiv (pv 2) pe_int) pe_int) pe_int) fun _ _ => rfl) pa_nil)))))) pss_nil)
      (pss_cons (ps_set (i := 4) scLDeed.nd rfl (Or.inl rfl) (pe_op op_add pe_int (pe_op op_mod (pe_fn GM hr1 rfl pass0 (pa_cons (pv 0) (pa_cons (pe_op op_add (pv 1) pe_int) pa_nil))) pe_int)))
      (pss_cons (ps_set (i := 5) scLDeed.nd rfl (Or.inl rfl) (pe_ix ix_seq (pe_lst (pa_cons pe_str (pa_cons pe_str (pa_cons pe_str (pa_cons pe_str (pa_cons pe_str pa_nil)))))) (pe_op op_mod (pe_op op_fdiv (pv 2) pe_int) pe_int) fun _ _ => rfl))
      (pss_cons (ps_set (i := 6) scLDeed.nd rfl (Or.inl rfl) (pe_fn GP hr rfl pass0 (pa_cons (pv 0) (pa_cons (pe_op op_add (pv 1) pe_int) pa_nil))))
      (pss_cons (ps_set (i := 7) scLDeed.nd rfl (Or.inl rfl) pe_non)
      (pss_cons (ps_mid (ps_if (PW.pt (pw_and (pt_cmpR op_eq (pv 5) pe_str (nomark _)) (pw_and1 (pt_cmpR op_eq (pe_op op_mod (pe_op op_fdiv (pv 2) pe_int) pe_int) pe_int (nomark _)))))
          (pss_one (ps_set (i := 7) scLDeed.nd rfl (Or.inl rfl) (pe_op op_add pe_int (pe_op op_mod (pe_op op_fdiv (pv 2) pe_int) (pv 4)))))
          (pss_one (ps_if (pt_cmpR op_eq (pe_op op_mod (pe_op op_fdiv (pv 2) pe_int) pe_int) pe_int (nomark _))
            (pss_one (ps_set (i := 4) scLDeed.nd rfl (Or.inl rfl) (pe_ix ix_seq (pe_lst (pa_cons pe_int (pa_cons pe_int (pa_cons pe_int pa_nil)))) (pe_op op_mod (pe_op op_fdiv (pv 2) pe_int) pe_int) fun _ _ => rfl))) pss_nil))))
      (pss_cons (ps_mid (ps_if (PW.pt (pw_and (pt_cmpR op_ne (pv 5) pe_str (nomark _)) (pw_and1 (pt_cmpR op_eq (pe_op op_mod (pe_op op_fdiv (pv 2) pe_int) pe_int) pe_int (nomark _)))))
          (pss_one (ps_set (i := 6) scLDeed.nd rfl (Or.inl rfl) pe_non)) pss_nil))
      (pss_cons (ps_mid (ps_if (pt_cmpR op_eq (pe_op op_mod (pe_op op_fdiv (pv 2) pe_int) pe_int) pe_int (nomark _)) (pss_one (ps_set (i := 6) scLDeed.nd rfl (Or.inl rfl) pe_int)) pss_nil))
      (pss_one (ps_ret (pe_tup (pa_cons (pv 3) (pa_cons (pe_op op_mod (pe_op op_fdiv (pv 2) pe_int) pe_int)
        (pa_cons (pe_ix ix_seq (pe_lst (pa_cons pe_str (pa_cons pe_str pa_nil))) (pe_op op_mod (pe_op op_fdiv (pv 2) pe_int) pe_int) fun _ _ => rfl)
        (pa_cons (pv 6) (pa_cons (pv 4) (pa_cons (pv 7) (pa_cons (pv 5) pa_nil))))))))))))))))))), ?_⟩
    refine ⟨_, rfl, _, rfl, a, ns, k, rfl, hs, hk, fun n h0 h1 => ?_⟩
    refine ⟨by show 10 ≤ sizeLine; decide, fun p1 hp1 => ⟨_, rfl, _, _, rfl, rfl, pos_lit (by decide), ?_⟩⟩
    obtain ⟨wd, ew, hw⟩ := at_words (n := n)
    refine .inl ⟨_, _, _, _, rfl, rfl, .inl (.inl upd_same), ew, ?_⟩
    have s1 := same_new (o := .lst [V.str "place", V.str "place", V.str "place", V.str "place", V.str "place", V.str "place", V.str "cancel", V.str "change", V.str "call", V.str "uncross"]) hp1
    refine ⟨_, rfl, rfl, _, rfl, ?_⟩
    rw [ne_str]
    by_cases hp : wd = "place"
    · subst hp
      refine iteF ?_
      refine ⟨_, rfl, _, rfl, _, _, rfl, rfl, a, ns, k + 1, rfl, same_seqL s1 hs, by omega, fun z z0 z1 => ⟨_, _, rfl, rfl, pos_lit (by decide), _, _, rfl, rfl, ?_⟩⟩
      refine ⟨by show 5 ≤ sizeLine; decide, fun p2 hp2 => tdm rfl ⟨by decide, by decide⟩ (by decide) ?_⟩
      obtain ⟨wy, ey⟩ := at_ways (Int.emod_nonneg (n / 10) (b := 5) (by decide)) (Int.emod_lt_of_pos (n / 10) (b := 5) (by decide))
      refine .inl ⟨_, _, _, _, rfl, rfl, .inl (.inl upd_same), ey, ?_⟩
      have s2 := same_upd s1 hp2 (o := .lst [V.str "rest", V.str "rest", V.str "rest", V.str "now", V.str "whole"])
      refine ⟨_, rfl, _, rfl, _, _, rfl, rfl, a, ns, k + 2, rfl, same_seqL s2 hs, by omega, fun pz H3 s3 => ?_⟩
      have s3' := s2.trans s3
      have m0 := Int.emod_nonneg z (b := 20) (by decide)
      refine ⟨fun σ' H' => ∃ (m : Int) (sh : Option Int), L2.Same H H' ∧ σ' = [some (V.ref a), some (.int k), some (.int n), some (.str "place"), some (.int m), some (.str wy.str), some (.int pz), some (optV sh)], ?_, ?_⟩
      · refine ⟨_, rfl, rfl, _, rfl, ?_⟩
        refine ite2 (fun _ => ?_) (fun _ => ?_)
        · refine tdm rfl ⟨by decide, by decide⟩ (by decide) ⟨rfl, _, rfl, ite2 (fun _ => ?_) (fun _ => ?_)⟩
          · exact ⟨_, rfl, _, _, rfl, rfl, ⟨by decide, by decide⟩, _, rfl, _, _, rfl, rfl, by show (0 : Int) < 1 + z % 20; omega, _, _, rfl, rfl, _, some _, s3', rfl⟩
          · refine tdm rfl ⟨by decide, by decide⟩ (by decide) ⟨rfl, _, rfl, ite2 (fun _ => ?_) (fun _ => ?_)⟩
            · refine ⟨by show 3 ≤ sizeLine; decide, fun p hp => tdm rfl ⟨by decide, by decide⟩ (by decide) ?_⟩
              obtain ⟨y, hy⟩ := atI_ints (ns := [10000, 9999, 100]) (Int.emod_nonneg (n / 600) (b := 3) (by decide)) (Int.emod_lt_of_pos (n / 600) (b := 3) (by decide))
              exact .inl ⟨_, _, _, _, rfl, rfl, .inl (.inl upd_same), hy, y, none, same_upd s3' hp, rfl⟩
            · exact ⟨_, none, s3', rfl⟩
        · refine iteF (tdm rfl ⟨by decide, by decide⟩ (by decide) ⟨rfl, _, rfl, ite2 (fun _ => ?_) (fun _ => ?_)⟩)
          · refine ⟨by show 3 ≤ sizeLine; decide, fun p hp => tdm rfl ⟨by decide, by decide⟩ (by decide) ?_⟩
            obtain ⟨y, hy⟩ := atI_ints (ns := [10000, 9999, 100]) (Int.emod_nonneg (n / 600) (b := 3) (by decide)) (Int.emod_lt_of_pos (n / 600) (b := 3) (by decide))
            exact .inl ⟨_, _, _, _, rfl, rfl, .inl (.inl upd_same), hy, y, none, same_upd s3' hp, rfl⟩
          · exact ⟨_, none, s3', rfl⟩
      · rintro σ' H4 ⟨m, sh, s4, rfl⟩
        refine ⟨fun σ' H' => ∃ (p : Option Int), L2.Same H H' ∧ σ' = [some (V.ref a), some (.int k), some (.int n), some (.str "place"), some (.int m), some (.str wy.str), some (optV p), some (optV sh)], ?_, ?_⟩
        · exact ⟨_, rfl, rfl, _, rfl, ite2 (fun _ => tdm rfl ⟨by decide, by decide⟩ (by decide) ⟨rfl, _, rfl, ite2 (fun _ => ⟨none, s4, rfl⟩) (fun _ => ⟨some pz, s4, rfl⟩)⟩) (fun _ => iteF ⟨some pz, s4, rfl⟩)⟩
        · rintro σ' H5 ⟨p, s5, rfl⟩
          refine ⟨fun σ' H' => ∃ (p : Option Int), L2.Same H H' ∧ σ' = [some (V.ref a), some (.int k), some (.int n), some (.str "place"), some (.int m), some (.str wy.str), some (optV p), some (optV sh)], ?_, ?_⟩
          · exact tdm rfl ⟨by decide, by decide⟩ (by decide) ⟨rfl, _, rfl, ite2 (fun _ => ⟨some 0, s5, rfl⟩) (fun _ => ⟨p, s5, rfl⟩)⟩
          · rintro σ' H6 ⟨p, s6, rfl⟩
            refine ⟨_, rfl, tdm rfl ⟨by decide, by decide⟩ (by decide) ⟨by show 2 ≤ sizeLine; decide, fun p3 hp3 => tdm rfl ⟨by decide, by decide⟩ (by decide) ?_⟩⟩
            obtain ⟨b, eb⟩ := at_sides (Int.emod_nonneg (n / 1800) (b := 2) (by decide)) (Int.emod_lt_of_pos (n / 1800) (b := 2) (by decide))
            refine .inl ⟨_, _, _, _, rfl, rfl, .inl (.inl upd_same), eb, ?_⟩
            refine ⟨_, rfl, _, rfl, _, rfl, _, rfl, by show 7 ≤ sizeLine; decide, fun t ht => ?_⟩
            have s7 := same_upd s6 hp3 (o := .lst [V.str "buy", V.str "sell"])
            exact q (.place (n / 3600 % 4) b p m sh wy) _ t _ (same_upd s7 ht) rfl (same_free s7 ht) upd_same
    · rw [decide_eq_false hp]
      refine iteT ⟨_, rfl, tdm rfl ⟨by decide, by decide⟩ (by decide) (tdm rfl ⟨by decide, by decide⟩ (by decide) ⟨by show 2 ≤ sizeLine; decide, fun p2 hp2 => ⟨_, rfl, _, _, rfl, rfl, ⟨by decide, by decide⟩, _, _, rfl, rfl, pos_lit (by decide), _, _, rfl, rfl, ⟨by decide, by decide⟩, ?_⟩⟩)⟩
      obtain ⟨y, hy⟩ := atI_ints (ns := [n / 160 % 42, 10001]) (i := n / 6720 % 12 / 11) (by omega) (by show _ < (2 : Int); omega)
      refine .inl ⟨_, _, _, _, rfl, rfl, .inl (.inl upd_same), hy, ?_⟩
      refine ⟨by show 3 ≤ sizeLine; decide, fun t ht => ?_⟩
      have s2 := same_upd s1 hp2 (o := .lst [V.int (n / 160 % 42), V.int 10001])
      have s3 := same_upd s2 ht (o := .tup [V.str wd, V.int (n / 10 % 16), V.int y])
      rcases hw with e | e | e | e | e
      · exact (hp e).elim
      · subst e
        exact q (.cancel (n / 10 % 16)) _ t _ s3 ⟨y, rfl⟩ (same_free s2 ht) upd_same
      · subst e
        exact q (.change (n / 10 % 16) y) _ t _ s3 rfl (same_free s2 ht) upd_same
      · subst e
        exact q .call _ t _ s3 ⟨_, rfl⟩ (same_free s2 ht) upd_same
      · subst e
        exact q .uncross _ t _ s3 ⟨_, rfl⟩ (same_free s2 ht) upd_same
  · obtain ⟨fd, F⟩ := T.f_l_deed
    exact F.kp
/-! ### what the book answers -/
inductive Ans where
  | bad | none | now | placed (n : Int) (es : List Ev) | left (n : Int) | done | trades (cs : List CTr)
def Ans.At (H : Hp) : Ans → V → Prop
  | .bad, v => v = .str "bad"
  | .none, v => v = .str "none"
  | .now, v => v = .str "now"
  | .placed n es, v => ∃ t r ys, v = .ref t ∧ H t = some (.tup [.int n, .ref r]) ∧ H r = some (.lst ys) ∧ Paired (EvAt H) es ys
  | .left n, v => v = .int n
  | .done, v => v = .non
  | .trades cs, v => ∃ r ys, v = .ref r ∧ H r = some (.lst ys) ∧ Paired (CtAt H) cs ys
/-- what a deed does to the book, and what is told of it -/
def Did (B : Bk) : Deed → Ans → Bk → Prop
  | .place o b p m s y, a, B' => (goodO (sideStr b) p m s y.str = false ∧ a = .bad ∧ B' = B) ∨ (Parts p m s y ∧ B.calling = true ∧ y ≠ .rest ∧ a = .now ∧ B' = B) ∨
      (Parts p m s y ∧ (B.calling = true → y = .rest) ∧ ∃ ad, a = .placed B.many (placeB B (newOrd B ad o b p m s) y).1 ∧ B' = (placeB B (newOrd B ad o b p m s) y).2)
  | .cancel n, a, B' => (∃ o, findO B.ords n = some o ∧ a = .left o.rest ∧ B' = cancelB B n) ∨ (findO B.ords n = Option.none ∧ a = .none ∧ B' = B)
  | .change n m, a, B' => (∃ o, findO B.ords n = some o ∧ isCount m = true ∧ a = .done ∧ B' = changeB B o m) ∨ (∃ o, findO B.ords n = some o ∧ isCount m = false ∧ a = .bad ∧ B' = B) ∨ (findO B.ords n = Option.none ∧ a = .none ∧ B' = B)
  | .call, a, B' => (B.calling = false ∧ a = .done ∧ B' = { B with calling := true }) ∨ (B.calling = true ∧ a = .now ∧ B' = B)
  | .uncross, a, B' => (B.calling = true ∧ a = .trades (uncrossB B).1 ∧ B' = (uncrossB B).2) ∨ (B.calling = false ∧ a = .now ∧ B' = B)
/-- the refusals' classes -/
def RefA (K : PySem.W.Frag) (a : Ans) (C : Addr) : Prop := (a = .bad ∧ C = He.ga K "BadOrder") ∨ (a = .none ∧ C = He.ga K "NotThere") ∨ (a = .now ∧ C = He.ga K "NotNow")
theorem RefA.exm (T : Tx K mg) {a : Ans} {C : Addr} (h : RefA K a C) : PySem.W.exmOne K (.ref C) (.ref (He.ga K "BookError")) = some true := by
  rcases h with ⟨_, e⟩ | ⟨_, e⟩ | ⟨_, e⟩ <;> rw [e]
  · exact T.x_BadOrder
  · exact T.x_NotThere
  · exact T.x_NotNow
theorem pe_fnS {X : Cx} {W : WX} {k : Nat} {x : Str} {ps : List Str} {sp : Sp} {p pos : Pos} {e : Expr} {es : List Expr} {t : TA} (F : Fn X.prog X.w X.K X.mg X.base (L2.CX X.prog X.w) k x ps sp) (hr : Room k X.A) (hg : Gl X x) (tk : Takes X W) (ha : PA X (e :: es) t)
    (hdb : (x == ("__debug__" : Str)) = false := by decide) (he : starEach (e :: es) X.env = (false, eval e X.env) :: starEach es X.env := by rfl) (hpl : (backTo pos (starEach es X.env)).any (·.1) = false := by rfl) :
    PE X (.Call (.Name x p) (e :: es) [] pos) (tCallS sp (WE W) t) := by
  obtain ⟨fd, G, b⟩ := F.ok
  exact pe_callS G hr hg F.gl F.kp b (passAt tk) ha hdb he hpl
theorem dix {j : Nat} {σ : L2.St} {H : Hp} {Q : VK} {t : Addr} {xs : List V} {i : Int} {v : V} (h : σ[j]? = some (some (.ref t))) (ht : H t = some (.tup xs)) (e : atI xs i = some v) (q : Q v H) : tOp (rIx K) (tVar j) (tC (.int i)) σ H Q :=
  ⟨_, h, .inr (.inl ⟨t, xs, i, v, rfl, rfl, .inl (.inl ht), e, q⟩)⟩
theorem ifY {c A B : Prop} [Decidable c] (hc : c) (h : A) : if decide c = true then A else B := by
  rw [if_pos (decide_eq_true hc)]
  exact h
theorem ifN {c A B : Prop} [Decidable c] (hc : ¬ c) (h : B) : if decide c = true then A else B := by
  rw [if_neg (by simpa using hc)]
  exact h
def spAsked (K : PySem.W.Frag) : Sp := fun vs H Q _ => ∃ (b d t : Addr) (B : Bk) (dd : Deed) (xs : List V), vs = [.ref b, .ref t] ∧ BookAt K H b d B ∧ BkOk B ∧ B.ords.length ≤ 900 ∧ H t = some (.tup xs) ∧ dd.At xs ∧
  ∀ a B' H' v, Did B dd a B' → BookAt K H' b d B' → Kd d H H' → a.At H' v → Q v H'
/-- behind the try -/
def AskM (K : PySem.W.Frag) (b d t : Addr) (H : Hp) (B : Bk) (dd : Deed) : L2.St → Hp → Prop := fun σ' H' => (∃ a B' v, σ' = [some (V.ref b), some (.ref t), some .non, some v, none, none] ∧ Did B dd a B' ∧ BookAt K H' b d B' ∧ Kd d H H' ∧ a.At H' v) ∨
  (∃ a C x, σ' = [some (V.ref b), some (.ref t), some (.ref x), some .non, none, none] ∧ Did B dd a B ∧ BookAt K H' b d B ∧ Kd d H H' ∧ RefA K a C ∧ H' x = some (ExK (.ref C) x))
theorem RefA.exc (T : Tx K mg) {a : Ans} {C : Addr} (h : RefA K a C) : ExcC K C := by
  rcases h with ⟨_, e⟩ | ⟨_, e⟩ | ⟨_, e⟩ <;> rw [e]
  · exact T.i_BadOrder
  · exact T.i_NotThere
  · exact T.i_NotNow
theorem RefA.kinds (T : Tx K mg) {a : Ans} {C : Addr} (h : RefA K a C) : ∃ (k1 k2 k3 : Bool) (j : Nat) (wd : Str), PySem.W.kitOne K (.ref C) (.ref (He.ga K "BadOrder")) = some k1 ∧ PySem.W.kitOne K (.ref C) (.ref (He.ga K "NotThere")) = some k2 ∧ PySem.W.kitOne K (.ref C) (.ref (He.ga K "NotNow")) = some k3 ∧
    PySem.W.kitOne K (.ref C) (.type "ValueError") = some true ∧ countIn (.bool true) ([k1, k2, k3].map PyData.bool) = 1 ∧ ([k1, k2, k3].map V.bl)[j]? = some (.bl true) ∧ (∀ m z', m < j → ([k1, k2, k3].map V.bl)[m]? = some z' → eqV z' (.bl true) = false) ∧
    [V.str "bad", V.str "none", V.str "now"][j]? = some (.str wd) ∧ ∀ H2, a.At H2 (.str wd) := by
  rcases h with ⟨ea, e⟩ | ⟨ea, e⟩ | ⟨ea, e⟩ <;> rw [e, ea]
  · exact ⟨true, false, false, 0, "bad", T.i_BadOrder_BadOrder, T.i_BadOrder_NotThere, T.i_BadOrder_NotNow, T.i_BadOrder_VE, rfl, rfl, fun m z' h => absurd h (Nat.not_lt_zero _), rfl, fun _ => rfl⟩
  · refine ⟨false, true, false, 1, "none", T.i_NotThere_BadOrder, T.i_NotThere_NotThere, T.i_NotThere_NotNow, T.i_NotThere_VE, rfl, rfl, fun m z' h q => ?_, rfl, fun _ => rfl⟩
    obtain rfl : m = 0 := by omega
    cases q
    rfl
  · refine ⟨false, false, true, 2, "now", T.i_NotNow_BadOrder, T.i_NotNow_NotThere, T.i_NotNow_NotNow, T.i_NotNow_VE, rfl, rfl, fun m z' h q => ?_, rfl, fun _ => rfl⟩
    rcases (show m = 0 ∨ m = 1 by omega) with rfl | rfl <;> cases q <;> rfl
theorem scAsked : FnScope ["_law_book", "_law_deed_here", "_law_kept", "_law_found", "e", "_law_kinds"] ["_law_book", "_law_deed_here"] (defScope s_l_asked) := ⟨rfl, rfl, rfl, by decide +kernel, rfl, by decide +kernel, by decide +kernel⟩
theorem w_l_asked (T : Tx K mg) : Fn P w K mg base CX0 6 "_law_asked" ["_law_book", "_law_deed_here"] (spAsked K) := by
  refine ⟨ok0 T.f_l_asked scAsked (fun _ _ _ _ _ _ us hl => match us, hl with | [_, _], _ => rfl) (fun vs H Q E h => ?_) (fun cdv A outer s H vs Q E hr h => ?_), T.g_l_asked, ?_⟩
  · obtain ⟨b, d, t, B, dd, xs, rfl, _⟩ := h
    rfl
  · obtain ⟨b, d, t, B, dd, xs, rfl, hB, hok, hlen, ht, hd, k⟩ := h
    have G1 : Fn P w K mg base (L2.CX P w) 5 "place" ["book", "owner", "side", "price", "many", "shows", "way"] (spPlace K) := w_place T
    have G2 : Fn P w K mg base (L2.CX P w) 2 "cancel" ["book", "number"] (spCancel K) := w_cancel T
    have G3 : Fn P w K mg base (L2.CX P w) 3 "change" ["book", "number", "many"] (spChange K) := w_change T
    have G4 : Fn P w K mg base (L2.CX P w) 1 "call" ["book"] (spCall K) := w_call T
    have G5 : Fn P w K mg base (L2.CX P w) 5 "uncross" ["book"] (spUncross K) := w_uncross T
    have hr2 := hr.mono (j := 2) (by decide)
    have hr3 := hr.mono (j := 3) (by decide)
    have hr1 := hr.mono (j := 1) (by decide)
    refine ⟨_, pss_cons (ps_set (i := 2) scAsked.nd rfl (Or.inl rfl) pe_non)
      (pss_cons (ps_set (i := 3) scAsked.nd rfl (Or.inl rfl) pe_non)
      (pss_cons (ps_mid (ps_kept (i := 4) (j := 2) rfl rfl rfl scAsked.nd rfl rfl rfl rfl (show 4 < 6 by decide) (by decide) (by decide) (fun _ => rfl) ⟨rfl, by decide, .inl T.g_BookError⟩ (fun W pn xe tk po =>
        pss_one (ps_if (pt_cmpR op_eq (pe_ix (r := rIx K) ix_seq (pv 1) pe_int (fun _ _ => rfl)) pe_str (nomark _))
          (pss_one (ps_set (i := 3) scAsked.nd rfl (Or.inl rfl) (pe_fnS G1 hr rfl tk (pa_cons (pv 0) (pa_cons (pe_ix (r := rIx K) ix_seq (pv 1) pe_int (fun _ _ => rfl)) (pa_cons (pe_ix (r := rIx K) ix_seq (pv 1) pe_int (fun _ _ => rfl)) (pa_cons (pe_ix (r := rIx K) ix_seq (pv 1) pe_int (fun _ _ => rfl)) (pa_cons (pe_ix (r := rIx K) ix_seq (pv 1) pe_int (fun _ _ => rfl))
            (pa_cons (pe_ix (r := rIx K) ix_seq (pv 1) pe_int (fun _ _ => rfl)) (pa_cons (pe_ix (r := rIx K) ix_seq (pv 1) pe_int (fun _ _ => rfl)) pa_nil))))))))))
          (pss_one (ps_if (pt_cmpR op_eq (pe_ix (r := rIx K) ix_seq (pv 1) pe_int (fun _ _ => rfl)) pe_str (nomark _))
            (pss_one (ps_set (i := 3) scAsked.nd rfl (Or.inl rfl) (pe_fnS G2 hr2 rfl tk (pa_cons (pv 0) (pa_cons (pe_ix (r := rIx K) ix_seq (pv 1) pe_int (fun _ _ => rfl)) pa_nil)))))
            (pss_one (ps_if (pt_cmpR op_eq (pe_ix (r := rIx K) ix_seq (pv 1) pe_int (fun _ _ => rfl)) pe_str (nomark _))
              (pss_one (ps_set (i := 3) scAsked.nd rfl (Or.inl rfl) (pe_fnS G3 hr3 rfl tk (pa_cons (pv 0) (pa_cons (pe_ix (r := rIx K) ix_seq (pv 1) pe_int (fun _ _ => rfl)) (pa_cons (pe_ix (r := rIx K) ix_seq (pv 1) pe_int (fun _ _ => rfl)) pa_nil))))))
              (pss_one (ps_if (pt_cmpR op_eq (pe_ix (r := rIx K) ix_seq (pv 1) pe_int (fun _ _ => rfl)) pe_str (nomark _))
                (pss_one (ps_set (i := 3) scAsked.nd rfl (Or.inl rfl) (pe_fnS G4 hr1 rfl tk (pa_cons (pv 0) pa_nil))))
                (pss_one (ps_set (i := 3) scAsked.nd rfl (Or.inl rfl) (pe_fnS G5 hr rfl tk (pa_cons (pv 0) pa_nil))))))))))))))
      (pss_cons (ps_if (pt_cmp (pc_isN (pv 2))) (pss_one (ps_ret (pv 3))) pss_nil)
      (pss_cons (ps_set (i := 5) scAsked.nd rfl (Or.inl rfl) (pe_lst (pa_cons (pe_callB call_isX rfl T.z_isinstance PyProof.Rows.boot_isinstance (pa_cons (pv 2) (pa_cons (pe_glob (v := .ref (He.ga K "BadOrder")) rfl T.g_BadOrder rfl) pa_nil)))
        (pa_cons (pe_callB call_isX rfl T.z_isinstance PyProof.Rows.boot_isinstance (pa_cons (pv 2) (pa_cons (pe_glob (v := .ref (He.ga K "NotThere")) rfl T.g_NotThere rfl) pa_nil)))
        (pa_cons (pe_callB call_isX rfl T.z_isinstance PyProof.Rows.boot_isinstance (pa_cons (pv 2) (pa_cons (pe_glob (v := .ref (He.ga K "NotNow")) rfl T.g_NotNow rfl) pa_nil))) pa_nil)))))
      (pss_cons (ps_if (PW.pt (pw_or (pt_cmpR op_ne (pe_bm PySem.F.plainAttrs_list PySem.F.slot_list_count PySem.F.type_list_count mt_cntB (pv 5) (pa_cons pe_bl pa_nil)) pe_int (nomark _))
          (pw_or1 (pt_not (pt_val (pe_callB call_isX rfl T.z_isinstance PyProof.Rows.boot_isinstance (pa_cons (pv 2) (pa_cons (pe_bltn (v := .ty "ValueError") (u := .type "ValueError") rfl T.z_ValueError (by decide +kernel) rfl) pa_nil))))))))
          (pss_one (ps_ret pe_str)) pss_nil)
      (pss_one (ps_ret (pe_ix ix_seq (pe_lst (pa_cons pe_str (pa_cons pe_str (pa_cons pe_str pa_nil)))) (pe_bm PySem.F.plainAttrs_list PySem.F.slot_list_index PySem.F.type_list_index mt_index (pv 5) (pa_cons pe_bl pa_nil)) fun _ _ => rfl)))))))), ?_⟩
    refine ⟨AskM K b d t H B dd, ?_, ?_⟩
    · have bad : ∀ (H1 : Hp) (a : Ans) (C : Addr), RefA K a C → Did B dd a B → BookAt K H1 b d B → Kd d H H1 → ∀ D : Ends, (∀ σ' H', AskM K b d t H B dd σ' H' → D.nx σ' H') →
          wKept K (.ref (He.ga K "BookError")) 4 2 D (.ref C) none [some (V.ref b), some (.ref t), some .non, some .non, none, none] H1 := fun H1 a C ra di hB1 k1 D hD =>
        ⟨rfl, ra.exm T, fun x hx => hD _ _ (.inr ⟨a, C, x, rfl, di, hB1.same (same_new hx), k1.trans (.of (same_new hx)), ra, upd_same⟩)⟩
      have good : ∀ (H1 : Hp) (a : Ans) (B' : Bk) (v : V), Did B dd a B' → BookAt K H1 b d B' → Kd d H H1 → a.At H1 v → AskM K b d t H B dd [some (V.ref b), some (.ref t), some .non, some v, none, none] H1 := fun H1 a B' v di hB1 k1 av => .inl ⟨a, B', v, rfl, di, hB1, k1, av⟩
      cases dd with
      | place o by_ p m s y =>
        have hd : xs = [.str "place", .int o, .str (sideStr by_), optV p, .int m, optV s, .str y.str] := hd
        subst hd
        refine dix rfl ht rfl ⟨rfl, _, rfl, ifY rfl ?_⟩
        refine ⟨_, rfl, dix rfl ht rfl (dix rfl ht rfl (dix rfl ht rfl (dix rfl ht rfl (dix rfl ht rfl (dix rfl ht rfl ?_)))))⟩
        refine ⟨b, d, B, o, sideStr by_, p, m, s, y.str, rfl, hB, hok, hlen, fun g H1 s1 => ?_, fun g hc hw H1 s1 => ?_, fun buy wy e1 e2 g hc H1 t1 r ys ad had hB1 k1 ht1 hr1 pe => ?_⟩
        · exact bad H1 .bad _ (.inl ⟨rfl, rfl⟩) (.inl ⟨g, rfl, rfl⟩) (hB.same s1) (.of s1) _ fun _ _ z => z
        · exact bad H1 .now _ (.inr (.inr ⟨rfl, rfl⟩)) (.inr (.inl ⟨goodO_parts.mp g, hc, fun z => hw (by rw [z]; rfl), rfl, rfl⟩)) (hB.same s1) (.of s1) _ fun _ _ z => z
        · cases sideStr_inj e1
          cases wayStr_inj e2
          exact good H1 _ _ _ (.inr (.inr ⟨g, hc, ad, rfl, rfl⟩)) hB1 k1 ⟨t1, r, ys, rfl, ht1, hr1, pe⟩
      | cancel n =>
        obtain ⟨m, hd⟩ := (show ∃ m, xs = [.str "cancel", .int n, .int m] from hd)
        subst hd
        refine dix rfl ht rfl ⟨rfl, _, rfl, ifN (by intro z; cases z) ?_⟩
        refine dix rfl ht rfl ⟨rfl, _, rfl, ifY rfl ?_⟩
        refine ⟨_, rfl, dix rfl ht rfl ⟨b, d, B, n, rfl, hB, fun o e H1 hB1 k1 => ?_, fun e => ?_⟩⟩
        · exact good H1 _ _ _ (.inl ⟨o, e, rfl, rfl⟩) hB1 k1 rfl
        · exact bad H .none _ (.inr (.inl ⟨rfl, rfl⟩)) (.inr ⟨e, rfl, rfl⟩) hB (.refl _ _) _ fun _ _ z => z
      | change n m =>
        have hd : xs = [.str "change", .int n, .int m] := hd
        subst hd
        refine dix rfl ht rfl ⟨rfl, _, rfl, ifN (by intro z; cases z) ?_⟩
        refine dix rfl ht rfl ⟨rfl, _, rfl, ifN (by intro z; cases z) ?_⟩
        refine dix rfl ht rfl ⟨rfl, _, rfl, ifY rfl ?_⟩
        refine ⟨_, rfl, dix rfl ht rfl (dix rfl ht rfl ⟨b, d, B, n, m, rfl, hB, by omega, fun o e c H1 hB1 k1 => ?_, fun o e c => ?_, fun e => ?_⟩)⟩
        · exact good H1 _ _ _ (.inl ⟨o, e, c, rfl, rfl⟩) hB1 k1 rfl
        · exact bad H .bad _ (.inl ⟨rfl, rfl⟩) (.inr (.inl ⟨o, e, c, rfl, rfl⟩)) hB (.refl _ _) _ fun _ _ z => z
        · exact bad H .none _ (.inr (.inl ⟨rfl, rfl⟩)) (.inr (.inr ⟨e, rfl, rfl⟩)) hB (.refl _ _) _ fun _ _ z => z
      | call =>
        obtain ⟨l, hd⟩ := (show ∃ l, xs = .str "call" :: l from hd)
        subst hd
        have a0 : atI (V.str "call" :: l) 0 = some (.str "call") := atI_nat (j := 0) rfl
        refine dix rfl ht a0 ⟨rfl, _, rfl, ifN (by intro z; cases z) ?_⟩
        refine dix rfl ht a0 ⟨rfl, _, rfl, ifN (by intro z; cases z) ?_⟩
        refine dix rfl ht a0 ⟨rfl, _, rfl, ifN (by intro z; cases z) ?_⟩
        refine dix rfl ht a0 ⟨rfl, _, rfl, ifY rfl ?_⟩
        refine ⟨_, rfl, b, d, B, rfl, hB, fun c H1 hB1 k1 => ?_, fun c => ?_⟩
        · exact good H1 _ _ _ (.inl ⟨c, rfl, rfl⟩) hB1 k1 rfl
        · exact bad H .now _ (.inr (.inr ⟨rfl, rfl⟩)) (.inr ⟨c, rfl, rfl⟩) hB (.refl _ _) _ fun _ _ z => z
      | uncross =>
        obtain ⟨l, hd⟩ := (show ∃ l, xs = .str "uncross" :: l from hd)
        subst hd
        have a0 : atI (V.str "uncross" :: l) 0 = some (.str "uncross") := atI_nat (j := 0) rfl
        refine dix rfl ht a0 ⟨rfl, _, rfl, ifN (by intro z; cases z) ?_⟩
        refine dix rfl ht a0 ⟨rfl, _, rfl, ifN (by intro z; cases z) ?_⟩
        refine dix rfl ht a0 ⟨rfl, _, rfl, ifN (by intro z; cases z) ?_⟩
        refine dix rfl ht a0 ⟨rfl, _, rfl, ifN (by intro z; cases z) ?_⟩
        refine ⟨_, rfl, b, d, B, rfl, hB, hok, by omega, fun c H1 r ys hB1 k1 hr1 pe => ?_, fun c => ?_⟩
        · exact good H1 _ _ _ (.inl ⟨c, rfl, rfl⟩) hB1 k1 ⟨r, ys, rfl, hr1, pe⟩
        · exact bad H .now _ (.inr (.inr ⟨rfl, rfl⟩)) (.inr ⟨c, rfl, rfl⟩) hB (.refl _ _) _ fun _ _ z => z
    · rintro σ' H' (⟨a, B', v, rfl, di, hB', k', av⟩ | ⟨a, C, x, rfl, di, hB', k', ra, hx⟩)
      · exact ⟨_, rfl, _, rfl, ifY rfl ⟨_, rfl, k a B' H' v di hB' k' av⟩⟩
      · refine ⟨_, rfl, _, rfl, ifN (by intro z; cases z) ?_⟩
        have isx : ∀ {i : Nat} {σ : L2.St} {cn : Addr} {bb : Bool} {Q : VK} {Hc : Hp}, σ[i]? = some (some (V.ref x)) → Hc x = some (ExK (.ref C) x) → PySem.W.kitOne K (.ref C) (.ref cn) = some bb → Q (.bl bb) Hc →
            tCB (rIsX K) (tCons (tVar i) (tCons (tC (.ref cn)) tNil)) σ Hc Q := fun hi hx' hk hq => ⟨_, hi, x, C, _, _, _, rfl, hx', ra.exc T, .own _, hk, hq⟩
        obtain ⟨k1, k2, k3, j, wd, h1, h2, h3, hv, hc, hj, hno, hw, ha⟩ := ra.kinds T
        refine isx rfl hx h1 (isx rfl hx h2 (isx rfl hx h3 ⟨by show 3 ≤ sizeLine; decide, fun p hp => ?_⟩))
        have sp := same_new (o := .lst [V.bl k1, V.bl k2, V.bl k3]) hp
        refine ⟨_, rfl, .inl ⟨rfl, _, .inl (.inl upd_same)⟩, p, [k1, k2, k3], rfl, rfl, .inl (.inl upd_same), rfl, _, rfl, ?_⟩
        rw [hc]
        refine iteNS rfl ⟨_, rfl, x, C, _, _, true, rfl, sp _ _ hx, ra.exc T, .ty "ValueError", hv, _, rfl, iteF ?_⟩
        refine ⟨by show 3 ≤ sizeLine; decide, fun p2 hp2 => ?_⟩
        have sp2 := same_upd sp hp2 (o := .lst [V.str "bad", V.str "none", V.str "now"])
        have ep : SqL K (upd (upd H' p (.lst [V.bl k1, V.bl k2, V.bl k3])) p2 (.lst [V.str "bad", V.str "none", V.str "now"])) p [V.bl k1, V.bl k2, V.bl k3] := .inl (.inl (by rw [upd_ne (ne_of_none upd_same hp2)]; exact upd_same))
        refine ⟨_, rfl, .inl ⟨rfl, _, ep⟩, p, _, .bl true, j, .bl true, rfl, rfl, ep, rfl, rfl, hj, rfl, hno, ?_⟩
        exact .inl ⟨p2, _, _, _, rfl, rfl, .inl (.inl upd_same), atI_nat hw, k a B _ _ di (hB'.same sp2) (k'.trans (.of sp2)) (ha _)⟩
  · obtain ⟨fd, F⟩ := T.f_l_asked
    exact F.kp
end
end FB

set_option maxRecDepth 100000
set_option maxHeartbeats 4000000
/-! Plain: what a deed does to the book, what the laws' record says of it. -/
namespace FB
open PySem PySem.Spec PyProof.Rows L2
/-! ### an order that comes -/
abbrev Bk.next (B : Bk) : Bk := { B with many := B.many + 1 }
theorem place_cases (B : Bk) (o : Ord) (w : Way) : ∃ r : List Ev × (Bk × Ord), ((r = matchAll (B.next, o) ∧ B.calling = false ∧ (w ≠ .whole ∨ canFill B.ords o = true)) ∨ (r = ([], (B.next, o)) ∧ (B.calling = true ∨ (w = .whole ∧ canFill B.ords o = false)))) ∧
    placeB B o w = (r.1, if w = .rest ∧ 0 < r.2.2.rest then r.2.1.put r.2.2 else r.2.1) := by
  refine ⟨if (!B.calling && (decide (w ≠ .whole) || canFill B.ords o)) = true then matchAll (B.next, o) else ([], (B.next, o)), ?_, rfl⟩
  by_cases c : (!B.calling && (decide (w ≠ .whole) || canFill B.ords o)) = true
  · rw [if_pos c]
    have c := Bool.and_eq_true_iff.mp c
    refine .inl ⟨rfl, by simpa using c.1, ?_⟩
    rcases Bool.or_eq_true_iff.mp c.2 with q | q
    · exact .inl (of_decide_eq_true q)
    · exact .inr q
  · rw [if_neg c]
    refine .inr ⟨rfl, ?_⟩
    cases hc : B.calling with
    | true => exact .inl rfl
    | false =>
      rw [hc] at c
      refine .inr ⟨?_, ?_⟩
      · by_cases hw : w = .whole
        · exact hw
        · exact absurd (by simp [hw]) c
      · cases hf : canFill B.ords o with
        | false => rfl
        | true => exact absurd (by simp [hf]) c
/-- what comes of an order that comes: those that rested, fewer and less; and the order itself, if it may rest -/
theorem place_from {B : Bk} (h : BkOk B) {ad : Nat} {owner : Int} {buy : Bool} {price : Option Int} {many : Int} {shows : Option Int} {w : Way} (x : Ord) (hx : x ∈ (placeB B (newOrd B ad owner buy price many shows) w).2.ords) :
    (∃ y ∈ B.ords, Like x y ∧ x.rest ≤ y.rest) ∨ (w = .rest ∧ Like x (newOrd B ad owner buy price many shows)) := by
  obtain ⟨r, hr, e⟩ := place_cases B (newOrd B ad owner buy price many shows) w
  rw [e] at hx
  have facts : Within r.2.1.ords B.ords ∧ Like r.2.2 (newOrd B ad owner buy price many shows) := by
    rcases hr with ⟨q, _⟩ | ⟨q, _⟩
    · have m := match_ok (s := (B.next, newOrd B ad owner buy price many shows)) (many_ok h)
      rw [q]
      exact ⟨m.within, m.like⟩
    · rw [q]
      exact ⟨Within.refl _, Like.refl _⟩
  by_cases c : w = .rest ∧ 0 < r.2.2.rest
  · have hx : x ∈ (if w = .rest ∧ 0 < r.2.2.rest then r.2.1.put r.2.2 else r.2.1 : Bk).ords := hx
    rw [if_pos c] at hx
    have hx : x ∈ putO r.2.1.ords ({ r.2.2 with place := r.2.1.places + 1 } : Ord).show := hx
    rcases mem_putO hx with e | ⟨hx, _⟩
    · refine .inr ⟨c.1, ?_⟩
      rw [e]
      have l := facts.2
      exact ⟨l.ad, l.num, l.own, l.buy, l.price, l.shows⟩
    · exact .inl (facts.1 x hx)
  · have hx : x ∈ (if w = .rest ∧ 0 < r.2.2.rest then r.2.1.put r.2.2 else r.2.1 : Bk).ords := hx
    rw [if_neg c] at hx
    exact .inl (facts.1 x hx)
/-! ### an order that is changed -/
structure ChangeOk (B : Bk) (o : Ord) (m : Int) (B' : Bk) : Prop where
  ok : BkOk B'
  from_ : ∀ x ∈ B'.ords, (∃ y ∈ B.ords, Like x y ∧ (x.rest = y.rest ∧ x.num ≠ o.num ∨ x.num = o.num ∧ x.rest = m))
  len : B'.ords.length ≤ B.ords.length + 1
  many : B'.many = B.many
  calling : B'.calling = B.calling
  last : B'.last = B.last
  traded : B'.traded = B.traded
theorem change_ok {B : Bk} (h : BkOk B) {o : Ord} {m : Int} (ho : o ∈ B.ords) (hm : isCount m = true) : ChangeOk B o m (changeB B o m) := by
  have q := h.os o ho
  have m1 : 1 ≤ m ∧ m ≤ 10000 := by simpa [isCount] using hm
  unfold changeB
  by_cases c : o.rest < m
  · rw [if_pos c, put_upd B (o1 := { o with rest := m }) (o := { o with rest := m }) rfl]
    refine ⟨put_ok h ⟨q.price, q.prb, m1.1, m1.2, q.shows, q.num0, q.num⟩, fun x hx => ?_, ?_, rfl, rfl, rfl, rfl⟩
    · have hx : x ∈ putO B.ords ({ o with rest := m, place := B.places + 1 } : Ord).show := hx
      rcases mem_putO hx with e | ⟨hx, n⟩
      · rw [e]
        exact ⟨o, ho, ⟨rfl, rfl, rfl, rfl, rfl, rfl⟩, .inr ⟨rfl, rfl⟩⟩
      · exact ⟨x, hx, Like.refl x, .inl ⟨rfl, n⟩⟩
    · exact putO_len _ _
  · rw [if_neg c]
    have i1 := imin_le_r o.part m
    have i2 := imin_or o.part m
    have := q.part
    refine ⟨upd_ok h ho rfl rfl ⟨q.price, q.prb, m1.1, m1.2, by show 1 ≤ imin o.part m; omega, i1, q.shows, q.num0, q.num, q.pl0, q.pl⟩, fun x hx => ?_, ?_, rfl, rfl, rfl, rfl⟩
    · have hx : x ∈ updO B.ords { o with rest := m, part := imin o.part m } := hx
      rcases mem_updO hx with ⟨e, _⟩ | ⟨hx, n⟩
      · rw [e]
        exact ⟨o, ho, ⟨rfl, rfl, rfl, rfl, rfl, rfl⟩, .inr ⟨rfl, rfl⟩⟩
      · exact ⟨x, hx, Like.refl x, .inl ⟨rfl, n⟩⟩
    · show (updO B.ords _).length ≤ _
      rw [updO_len]
      omega
/-! ### a deed -/
def Ans.num : Ans → Option Int
  | .placed n _ => some n
  | _ => Option.none
/-- what of a deed's answer fits it -/
def Fits : Deed → Ans → Prop
  | .place _ _ _ _ _ _, .bad => True
  | .place _ _ _ _ _ _, .now => True
  | .place _ _ _ _ _ _, .placed _ _ => True
  | .cancel _, .left _ => True
  | .cancel _, .none => True
  | .change _ _, .done => True
  | .change _ _, .bad => True
  | .change _ _, .none => True
  | .call, .done => True
  | .call, .now => True
  | .uncross, .trades _ => True
  | .uncross, .now => True
  | _, _ => False
structure DidOk (B : Bk) (dd : Deed) (a : Ans) (B' : Bk) : Prop where
  ok : BkOk B'
  fits : Fits dd a
  len : B'.ords.length ≤ B.ords.length + 1
  from_ : ∀ x ∈ B'.ords, (∃ y ∈ B.ords, Like x y) ∨ (∃ o b p m s es, dd = .place o b p m s .rest ∧ a = .placed B.many es ∧ x.num = B.many ∧ x.own = o ∧ x.buy = b ∧ x.price = p)
  new : ∀ n es, a = .placed n es → n = B.many ∧ B'.many = B.many + 1
  old : a.num = none → B'.many = B.many
  chg : ∀ n m, dd = .change n m → a = .done → ∃ o ∈ B.ords, o.num = n
  can : ∀ n k, dd = .cancel n → a = .left k → ∃ o ∈ B.ords, o.num = n
theorem did_same {B : Bk} (h : BkOk B) {dd : Deed} {a : Ans} (f : Fits dd a) (hn : a.num = none) (h1 : ∀ n m, dd = .change n m → a ≠ .done) (h2 : ∀ n k, dd = .cancel n → a ≠ .left k) : DidOk B dd a B :=
  ⟨h, f, by omega, fun x hx => .inl ⟨x, hx, Like.refl x⟩, fun n es e => (by rw [e] at hn; cases hn), fun _ => rfl, fun n m e1 e2 => absurd e2 (h1 n m e1), fun n k e1 e2 => absurd e2 (h2 n k e1)⟩
theorem did_ok {B : Bk} (h : BkOk B) {dd : Deed} {a : Ans} {B' : Bk} (hd : Did B dd a B') : DidOk B dd a B' := by
  cases dd with
  | place o b p m s y =>
    rcases hd with ⟨_, rfl, rfl⟩ | ⟨_, _, _, rfl, rfl⟩ | ⟨g, hc, ad, rfl, rfl⟩
    · exact did_same h trivial rfl (fun _ _ e => nomatch e) fun _ _ e => nomatch e
    · exact did_same h trivial rfl (fun _ _ e => nomatch e) fun _ _ e => nomatch e
    · have P := place_ok (ad := ad) (owner := o) (buy := b) h g
      refine ⟨P.ok, trivial, P.len, fun x hx => ?_, fun n es e => ?_, fun e => (nomatch e), fun _ _ e => (nomatch e), fun _ _ e => (nomatch e)⟩
      · rcases place_from h x hx with ⟨y, hy, l, _⟩ | ⟨hw, l⟩
        · exact .inl ⟨y, hy, l⟩
        · subst hw
          exact .inr ⟨o, b, p, m, s, _, rfl, rfl, l.num, l.own, l.buy, l.price⟩
      · cases e
        exact ⟨rfl, P.many⟩
  | cancel n =>
    rcases hd with ⟨o, ho, rfl, rfl⟩ | ⟨_, rfl, rfl⟩
    · exact ⟨drop_ok h n, trivial, by have := List.length_filter_le (fun x : Ord => decide (x.num ≠ n)) B.ords; show (dropO B.ords n).length ≤ _; unfold dropO; omega, fun x hx => .inl ⟨x, (mem_dropO.mp hx).1, Like.refl x⟩, fun _ _ e => (nomatch e), fun _ => rfl, fun _ _ e => (nomatch e),
        fun n' k e1 e2 => by
          cases e1
          obtain ⟨h1, h2⟩ := find_some ho
          exact ⟨o, h1, h2⟩⟩
    · exact did_same h trivial rfl (fun _ _ e => nomatch e) fun _ _ _ e => nomatch e
  | change n m =>
    rcases hd with ⟨o, ho, hm, rfl, rfl⟩ | ⟨_, _, _, rfl, rfl⟩ | ⟨_, rfl, rfl⟩
    · obtain ⟨h1, h2⟩ := find_some ho
      have C := change_ok h h1 hm
      exact ⟨C.ok, trivial, C.len, fun x hx => let ⟨y, hy, l, _⟩ := C.from_ x hx; .inl ⟨y, hy, l⟩, fun _ _ e => (nomatch e), fun _ => C.many, fun n' m' e _ => by
        cases e
        exact ⟨o, h1, h2⟩, fun _ _ e => (nomatch e)⟩
    · exact did_same h trivial rfl (fun _ _ _ e => nomatch e) fun _ _ e => nomatch e
    · exact did_same h trivial rfl (fun _ _ _ e => nomatch e) fun _ _ e => nomatch e
  | call =>
    rcases hd with ⟨_, rfl, rfl⟩ | ⟨_, rfl, rfl⟩
    · exact ⟨calling_ok h true, trivial, Nat.le_succ _, fun x hx => .inl ⟨x, hx, Like.refl x⟩, fun _ _ e => (nomatch e), fun _ => rfl, fun _ _ e => (nomatch e), fun _ _ e => (nomatch e)⟩
    · exact did_same h trivial rfl (fun _ _ e => nomatch e) fun _ _ e => nomatch e
  | uncross =>
    rcases hd with ⟨_, rfl, rfl⟩ | ⟨_, rfl, rfl⟩
    · have U := uncross_ok h
      exact ⟨U.ok, trivial, Nat.le_succ_of_le U.len, fun x hx => let ⟨y, hy, l, _⟩ := U.within x hx; .inl ⟨y, hy, l⟩, fun _ _ e => (nomatch e), fun _ => U.many, fun _ _ e => (nomatch e), fun _ _ e => (nomatch e)⟩
    · exact did_same h trivial rfl (fun _ _ e => nomatch e) fun _ _ e => nomatch e
/-! ### the laws' record -/
structure Rec where
  ad : Nat
  n : Int
  own : Int
  buy : Bool
  price : Option Int
  left : Int
  way : Way
def recF (r : Rec) : List (Key × V) := [(.inr "owner", .int r.own), (.inr "side", .str (sideStr r.buy)), (.inr "price", optV r.price), (.inr "left", .int r.left), (.inr "way", .str r.way.str)]
def recE (r : Rec) : Key × V := (.inl r.n, .ref r.ad)
def setLeft (rs : List Rec) (n m : Int) : List Rec := rs.map fun r => if r.n = n then { r with left := m } else r
def keepR (rs : List Rec) (dd : Deed) (a : Ans) (ad : Nat) : List Rec := match dd, a with
  | .place o b p m _ y, .placed n _ => rs ++ [{ ad := ad, n := n, own := o, buy := b, price := p, left := m, way := y }]
  | .change n m, .done => setLeft rs n m
  | .cancel n, .left _ => setLeft rs n 0
  | _, _ => rs
/-- the record knows each order that rests -/
structure Known (B : Bk) (rs : List Rec) : Prop where
  of : ∀ o ∈ B.ords, ∃ r ∈ rs, r.n = o.num ∧ r.buy = o.buy ∧ r.price = o.price ∧ r.own = o.own ∧ r.way = .rest
  lt : ∀ r ∈ rs, r.n < B.many
theorem mem_setLeft {rs : List Rec} {n m : Int} {r : Rec} (h : r ∈ setLeft rs n m) : ∃ r0 ∈ rs, r.n = r0.n ∧ r.ad = r0.ad ∧ r.own = r0.own ∧ r.buy = r0.buy ∧ r.price = r0.price ∧ r.way = r0.way ∧ r.left = if r0.n = n then m else r0.left := by
  obtain ⟨r0, h0, e⟩ := List.mem_map.mp h
  refine ⟨r0, h0, ?_⟩
  rw [← e]
  by_cases c : r0.n = n
  · rw [if_pos c, if_pos c]
    exact ⟨rfl, rfl, rfl, rfl, rfl, rfl, rfl⟩
  · rw [if_neg c, if_neg c]
    exact ⟨rfl, rfl, rfl, rfl, rfl, rfl, rfl⟩
theorem setLeft_mem {rs : List Rec} {n m : Int} {r0 : Rec} (h : r0 ∈ rs) : ∃ r ∈ setLeft rs n m, r.n = r0.n ∧ r.ad = r0.ad ∧ r.own = r0.own ∧ r.buy = r0.buy ∧ r.price = r0.price ∧ r.way = r0.way := by
  refine ⟨if r0.n = n then { r0 with left := m } else r0, List.mem_map.mpr ⟨r0, h, rfl⟩, ?_⟩
  by_cases c : r0.n = n
  · rw [if_pos c]
    exact ⟨rfl, rfl, rfl, rfl, rfl, rfl⟩
  · rw [if_neg c]
    exact ⟨rfl, rfl, rfl, rfl, rfl, rfl⟩
/-- who stood in the record stands there, but for what is left -/
theorem keep_mem {rs : List Rec} {dd : Deed} {a : Ans} {ad : Nat} {r0 : Rec} (h : r0 ∈ rs) : ∃ r ∈ keepR rs dd a ad, r.n = r0.n ∧ r.ad = r0.ad ∧ r.own = r0.own ∧ r.buy = r0.buy ∧ r.price = r0.price ∧ r.way = r0.way := by
  unfold keepR
  split
  · exact ⟨r0, List.mem_append_left _ h, rfl, rfl, rfl, rfl, rfl, rfl⟩
  · exact setLeft_mem h
  · exact setLeft_mem h
  · exact ⟨r0, h, rfl, rfl, rfl, rfl, rfl, rfl⟩
theorem known_did {B B' : Bk} {rs : List Rec} {dd : Deed} {a : Ans} {ad : Nat} (k : Known B rs) (d : DidOk B dd a B') : Known B' (keepR rs dd a ad) := by
  have hmany : B.many ≤ B'.many := by
    cases e : a.num with
    | none => rw [d.old e]; exact Int.le_refl _
    | some n =>
      cases a with
      | placed n' es =>
        have := (d.new n' es rfl).2
        omega
      | _ => cases e
  refine ⟨fun o ho => ?_, fun r hr => ?_⟩
  · rcases d.from_ o ho with ⟨y, hy, l⟩ | ⟨o', b, p, m, s, es, e1, e2, x1, x2, x3, x4⟩
    · obtain ⟨r0, h0, q1, q2, q3, q4, q5⟩ := k.of y hy
      obtain ⟨r, hr, e1, _, e2, e3, e4, e5⟩ := keep_mem (dd := dd) (a := a) (ad := ad) h0
      exact ⟨r, hr, by rw [e1, q1, l.num], by rw [e3, q2, l.buy], by rw [e4, q3, l.price], by rw [e2, q4, l.own], by rw [e5, q5]⟩
    · subst e1 e2
      exact ⟨_, List.mem_append_right _ List.mem_cons_self, x1.symm, x3.symm, x4.symm, x2.symm, rfl⟩
  · unfold keepR at hr
    split at hr
    · rename_i o b p m s y n es
      obtain ⟨e1, e2⟩ := d.new n es rfl
      rcases List.mem_append.mp hr with hr | hr
      · have := k.lt r hr
        omega
      · rw [List.mem_singleton.mp hr]
        show n < B'.many
        omega
    · obtain ⟨r0, h0, e, _⟩ := mem_setLeft hr
      have := k.lt r0 h0
      omega
    · obtain ⟨r0, h0, e, _⟩ := mem_setLeft hr
      have := k.lt r0 h0
      omega
    · have := k.lt r hr
      omega
end FB

set_option maxRecDepth 100000
set_option maxHeartbeats 4000000
/-! The laws' record in the heap; _law_keep. -/
namespace FB
open PySem PySem.Spec PyProof.Rows L2
structure RecAt (H : Hp) (rd : Addr) (rs : List Rec) : Prop where
  dc : H rd = some (.dK (rs.map recE))
  os : ∀ r ∈ rs, H r.ad = some (.dK (recF r))
  ndn : (rs.map (·.n)).Nodup
  nda : (rs.map (·.ad)).Nodup
  ne : ∀ r ∈ rs, r.ad ≠ rd
/-- all but the record's dicts is as it was -/
def RKeep (rd : Addr) (rs : List Rec) (H H' : Hp) : Prop := ∀ b o, H b = some o → b ≠ rd → (∀ r ∈ rs, r.ad ≠ b) → H' b = some o
theorem RKeep.of {rd : Addr} {rs : List Rec} {H H' : Hp} (s : L2.Same H H') : RKeep rd rs H H' := fun b o e _ _ => s b o e
theorem recs_inj {β : Type} {f : Rec → β} {rs : List Rec} (h : (rs.map f).Nodup) {x y : Rec} (hx : x ∈ rs) (hy : y ∈ rs) (e : f x = f y) : x = y := by
  induction rs with
  | nil => cases hx
  | cons a l ih =>
    rw [List.map_cons, List.nodup_cons] at h
    rcases List.mem_cons.mp hx with e1 | hx <;> rcases List.mem_cons.mp hy with e2 | hy
    · rw [e1, e2]
    · rw [e1] at e
      exact absurd (List.mem_map.mpr ⟨y, hy, e.symm⟩) h.1
    · rw [e2] at e
      exact absurd (List.mem_map.mpr ⟨x, hx, e⟩) h.1
    · exact ih h.2 hx hy
theorem val_rec {rs : List Rec} (hn : (rs.map (·.n)).Nodup) {r : Rec} (hr : r ∈ rs) : valV (rs.map recE) (Sum.inl r.n) = some (.ref r.ad) := by
  induction rs with
  | nil => cases hr
  | cons a l ih =>
    rw [List.map_cons]
    rw [List.map_cons, List.nodup_cons] at hn
    by_cases e : a.n = r.n
    · have : r = a := by
        rcases List.mem_cons.mp hr with h | h
        · exact h
        · exact absurd (List.mem_map.mpr ⟨r, h, e.symm⟩) hn.1
      subst this
      exact valV_pos (p := recE r) rfl
    · rw [valV_neg (p := recE a) (fun z => e (Sum.inl.inj z))]
      rcases List.mem_cons.mp hr with h | h
      · exact absurd (congrArg Rec.n h).symm e
      · exact ih hn.2 h
theorem val_norec {rs : List Rec} {n : Int} (h : ∀ r ∈ rs, r.n ≠ n) : valV (rs.map recE) (Sum.inl n) = none := by
  induction rs with
  | nil => rfl
  | cons a l ih =>
    rw [List.map_cons, valV_neg (p := recE a) (fun z => h a List.mem_cons_self (Sum.inl.inj z))]
    exact ih fun r hr => h r (List.mem_cons_of_mem _ hr)
theorem RecAt.kd {d rd : Addr} {H H' : Hp} {rs : List Rec} (h : RecAt H rd rs) (k : Kd d H H') (n1 : rd ≠ d) (n2 : ∀ r ∈ rs, r.ad ≠ d) : RecAt H' rd rs :=
  ⟨k _ _ h.dc rfl n1, fun r hr => k _ _ (h.os r hr) rfl (n2 r hr), h.ndn, h.nda, h.ne⟩
theorem RecAt.same {rd : Addr} {H H' : Hp} {rs : List Rec} (h : RecAt H rd rs) (s : L2.Same H H') : RecAt H' rd rs :=
  ⟨s _ _ h.dc, fun r hr => s _ _ (h.os r hr), h.ndn, h.nda, h.ne⟩
/-- a new entry -/
theorem RecAt.add {rd : Addr} {H : Hp} {rs : List Rec} {r : Rec} (h : RecAt H rd rs) (hn : ∀ x ∈ rs, x.n ≠ r.n) (hp : H r.ad = none) {H1 : Hp} (s : L2.Same H H1) (e1 : H1 r.ad = some (.dK (recF r))) :
    RecAt (upd H1 rd (.dK (putK (rs.map recE) (Sum.inl r.n) (.ref r.ad)))) rd (rs ++ [r]) := by
  have ne : r.ad ≠ rd := fun z => by
    rw [z, h.dc] at hp
    cases hp
  have na : ∀ x ∈ rs, x.ad ≠ r.ad := fun x hx z => by
    have := h.os x hx
    rw [z, hp] at this
    cases this
  refine ⟨?_, fun x hx => ?_, ?_, ?_, fun x hx => ?_⟩
  · rw [upd_same, putK_new _ (val_norec hn), List.map_append]
    rfl
  · rcases List.mem_append.mp hx with hx | hx
    · rw [upd_ne (h.ne x hx)]
      exact s _ _ (h.os x hx)
    · rw [List.mem_singleton.mp hx, upd_ne ne]
      exact e1
  · rw [List.map_append, List.nodup_append]
    refine ⟨h.ndn, by simp, fun a ha b hb => ?_⟩
    obtain ⟨x, hx, e⟩ := List.mem_map.mp ha
    have : b = r.n := by simpa using hb
    rw [← e, this]
    exact hn x hx
  · rw [List.map_append, List.nodup_append]
    refine ⟨h.nda, by simp, fun a ha b hb => ?_⟩
    obtain ⟨x, hx, e⟩ := List.mem_map.mp ha
    have : b = r.ad := by simpa using hb
    rw [← e, this]
    exact na x hx
  · rcases List.mem_append.mp hx with hx | hx
    · exact h.ne x hx
    · rw [List.mem_singleton.mp hx]
      exact ne
theorem setLeft_recE (rs : List Rec) (n m : Int) : (setLeft rs n m).map recE = rs.map recE := by
  unfold setLeft
  rw [List.map_map]
  refine List.map_congr_left fun r _ => ?_
  show recE (if r.n = n then { r with left := m } else r) = recE r
  by_cases c : r.n = n
  · rw [if_pos c]
    rfl
  · rw [if_neg c]
/-- how many are left is set -/
theorem RecAt.set {rd : Addr} {H : Hp} {rs : List Rec} {r : Rec} (h : RecAt H rd rs) (hr : r ∈ rs) (m : Int) : RecAt (upd H r.ad (.dK (recF { r with left := m }))) rd (setLeft rs r.n m) := by
  refine ⟨?_, fun x hx => ?_, ?_, ?_, fun x hx => ?_⟩
  · rw [upd_ne (Ne.symm (h.ne r hr)), setLeft_recE]
    exact h.dc
  · obtain ⟨y, hy, e⟩ := List.mem_map.mp hx
    by_cases c : y.n = r.n
    · have : y = r := recs_inj h.ndn hy hr c
      subst this
      have e : { y with left := m } = x := by
        rw [← e]
        exact (if_pos c).symm
      rw [← e]
      exact upd_same
    · have e : y = x := by
        rw [← e]
        exact (if_neg c).symm
      subst e
      rw [upd_ne fun z => c (congrArg Rec.n (recs_inj h.nda hy hr z))]
      exact h.os y hy
  · have e : (setLeft rs r.n m).map (·.n) = rs.map (·.n) := by
      unfold setLeft
      rw [List.map_map]
      refine List.map_congr_left fun x _ => ?_
      show (if x.n = r.n then { x with left := m } else x).n = x.n
      by_cases c : x.n = r.n
      · rw [if_pos c]
      · rw [if_neg c]
    rw [e]
    exact h.ndn
  · have e : (setLeft rs r.n m).map (·.ad) = rs.map (·.ad) := by
      unfold setLeft
      rw [List.map_map]
      refine List.map_congr_left fun x _ => ?_
      show (if x.n = r.n then { x with left := m } else x).ad = x.ad
      by_cases c : x.n = r.n
      · rw [if_pos c]
      · rw [if_neg c]
    rw [e]
    exact h.nda
  · obtain ⟨y, hy, _, e, _⟩ := mem_setLeft hx
    rw [e]
    exact h.ne y hy
theorem put_left (r : Rec) (m : Int) : putK (recF r) (Sum.inr "left") (.int m) = recF { r with left := m } := by
  have h1 : ((recF r).any fun kv => decide (kv.1 = (Sum.inr ("left" : Str) : Key))) = true := rfl
  unfold putK
  rw [if_pos h1]
  rfl
theorem merge_recF (r : Rec) : mergeK [] (recF r) = recF r := rfl
theorem val_recF (r : Rec) : valV (recF r) (Sum.inr "owner") = some (.int r.own) ∧ valV (recF r) (Sum.inr "side") = some (.str (sideStr r.buy)) ∧ valV (recF r) (Sum.inr "price") = some (optV r.price) ∧ valV (recF r) (Sum.inr "left") = some (.int r.left) ∧ valV (recF r) (Sum.inr "way") = some (.str r.way.str) :=
  ⟨rfl, rfl, rfl, rfl, rfl⟩
theorem BookAt.rk {K : PySem.W.Frag} {H H' : Hp} {b d rd : Addr} {B : Bk} {rs : List Rec} (h : BookAt K H b d B) (k : RKeep rd rs H H') (hR : RecAt H rd rs) (n1 : rd ≠ d) (n2 : ∀ r ∈ rs, r.ad ≠ d) : BookAt K H' b d B := by
  have ins : ∀ {a C dx : Addr} {fs : List (Str × V)}, H a = some (.ins C dx fs) → H' a = some (.ins C dx fs) := fun {a C dx fs} e => k a _ e (fun z => by
    rw [z, hR.dc] at e
    cases e) fun r hr z => by
    have := hR.os r hr
    rw [z, e] at this
    cases this
  obtain ⟨dx, e⟩ := h.bk
  exact ⟨⟨dx, ins e⟩, k d _ h.dc (Ne.symm n1) n2, fun o ho => let ⟨dy, ey⟩ := h.os o ho; ⟨dy, ins ey⟩, h.nda, h.ndn⟩
theorem rk_seqL {K : PySem.W.Frag} {H H' : Hp} {rd a : Addr} {rs : List Rec} {xs : List V} (k : RKeep rd rs H H') (hR : RecAt H rd rs) (h : SqL K H a xs) : SqL K H' a xs := by
  have go : ∀ {o : HO}, H a = some o → (∀ kvs, o ≠ .dK kvs) → H' a = some o := fun {o} e n => k a _ e (fun z => by
    rw [z, hR.dc] at e
    cases e
    exact n _ rfl) fun r hr z => by
    have := hR.os r hr
    rw [z, e] at this
    cases this
    exact n _ rfl
  rcases h with (h | ⟨o, h⟩) | h
  · exact .inl (.inl (go h fun _ z => nomatch z))
  · exact .inl (.inr ⟨o, go h fun _ z => nomatch z⟩)
  · exact .inr h
section
variable {P : Program} {w : World} {K : PySem.W.Frag} {mg : Str → Option Value} {base : Heap}
/-- what the answer's type is -/
theorem ans_tuple {dd : Deed} {a : Ans} {H : Hp} {v : V} (f : Fits dd a) (h : a.At H v) : ∃ t, TyX K H v t ∧ PySem.W.kitOne K t (.type "tuple") = some a.num.isSome := by
  cases a with
  | placed n es =>
    obtain ⟨t, r, ys, rfl, ht, _⟩ := h
    exact ⟨_, .base (.tup ht), kit_ty (r := true) (by decide +kernel)⟩
  | trades cs =>
    obtain ⟨r, ys, rfl, hr, _⟩ := h
    exact ⟨_, .base (.lst hr), kit_ty (r := false) (by decide +kernel)⟩
  | left n => cases (show v = .int n from h); exact ⟨_, .base (.int n), kit_ty (r := false) (by decide +kernel)⟩
  | done => cases (show v = .non from h); exact ⟨_, .base .non, kit_ty (r := false) (by decide +kernel)⟩
  | bad => cases (show v = .str "bad" from h); exact ⟨_, .base (.str _), kit_ty (r := false) (by decide +kernel)⟩
  | none => cases (show v = .str "none" from h); exact ⟨_, .base (.str _), kit_ty (r := false) (by decide +kernel)⟩
  | now => cases (show v = .str "now" from h); exact ⟨_, .base (.str _), kit_ty (r := false) (by decide +kernel)⟩
def spKeep (K : PySem.W.Frag) : Sp := fun vs H Q _ => ∃ (rd t : Addr) (v : V) (rs : List Rec) (dd : Deed) (a : Ans) (xs : List V), vs = [.ref rd, .ref t, v] ∧ RecAt H rd rs ∧ rs.length ≤ 900 ∧ H t = some (.tup xs) ∧ dd.At xs ∧ Fits dd a ∧ a.At H v ∧
  (∀ n es, a = .placed n es → ∀ r ∈ rs, r.n ≠ n) ∧ (∀ n m, dd = .change n m → a = .done → ∃ r ∈ rs, r.n = n) ∧ (∀ n k, dd = .cancel n → a = .left k → ∃ r ∈ rs, r.n = n) ∧
  ∀ H' ad, a.num = none ∨ H ad = none → RecAt H' rd (keepR rs dd a ad) → RKeep rd rs H H' → Q .non H'
theorem scKeep : FnScope ["_law_record", "_law_deed_here", "_law_found"] ["_law_record", "_law_deed_here", "_law_found"] (defScope s_l_keep) := ⟨rfl, rfl, rfl, by decide +kernel, rfl, by decide +kernel, by decide +kernel⟩
theorem w_l_keep (T : Tx K mg) : Fn P w K mg base CX0 1 "_law_keep" ["_law_record", "_law_deed_here", "_law_found"] (spKeep K) := by
  refine ⟨ok0 T.f_l_keep scKeep (fun _ _ _ _ _ _ us hl => match us, hl with | [_, _, _], _ => rfl) (fun vs H Q E h => ?_) (fun cdv A outer s H vs Q E hr h => ?_), T.g_l_keep, ?_⟩
  · obtain ⟨rd, t, v, rs, dd, a, xs, rfl, _⟩ := h
    rfl
  · obtain ⟨rd, t, v, rs, dd, a, xs, rfl, hR, hlen, ht, hd, hf, hv, hnew, hchg, hcan, k⟩ := h
    have hu := hu_of hr
    refine ⟨_, pss_cons (ps_if (PW.pt (pw_and (pt_cmpR op_eq (pe_ix (r := rIx K) ix_seq (pv 1) pe_int (fun _ _ => rfl)) pe_str (nomark _)) (pw_and1 (pt_val (pe_callB call_isi rfl T.z_isinstance PyProof.Rows.boot_isinstance (pa_cons (pv 2) (pa_cons (pe_bltn (v := .ty "tuple") (u := .type "tuple") rfl T.z_tuple (by decide +kernel) rfl) pa_nil)))))))
        (pss_one (ps_dput hu (pv 0) (pe_ix (r := rIx K) ix_seq (pv 2) pe_int (fun _ _ => rfl)) (pe_disp (pps_cons pe_str (pe_ix (r := rIx K) ix_seq (pv 1) pe_int (fun _ _ => rfl)) (pps_cons pe_str (pe_ix (r := rIx K) ix_seq (pv 1) pe_int (fun _ _ => rfl)) (pps_cons pe_str (pe_ix (r := rIx K) ix_seq (pv 1) pe_int (fun _ _ => rfl))
          (pps_cons pe_str (pe_ix (r := rIx K) ix_seq (pv 1) pe_int (fun _ _ => rfl)) (pps_cons pe_str (pe_ix (r := rIx K) ix_seq (pv 1) pe_int (fun _ _ => rfl)) pps_nil))))) rfl rfl (by intro z; cases z) (by decide)) rfl)) pss_nil)
      (pss_cons (ps_if (PW.pt (pw_and (pt_cmpR op_eq (pe_ix (r := rIx K) ix_seq (pv 1) pe_int (fun _ _ => rfl)) pe_str (nomark _)) (pw_and1 (pt_cmp (pc_isN (pv 2))))))
        (pss_one (ps_dput hu (pe_dget hu (pv 0) (pe_ix (r := rIx K) ix_seq (pv 1) pe_int (fun _ _ => rfl)) (fun _ _ => rfl)) pe_str (pe_ix (r := rIx K) ix_seq (pv 1) pe_int (fun _ _ => rfl)) rfl)) pss_nil)
      (pss_one (ps_if (PW.pt (pw_and (pt_cmpR op_eq (pe_ix (r := rIx K) ix_seq (pv 1) pe_int (fun _ _ => rfl)) pe_str (nomark _)) (pw_and1 (pt_not (pt_val (pe_callB call_isi rfl T.z_isinstance PyProof.Rows.boot_isinstance (pa_cons (pv 2) (pa_cons (pe_bltn (v := .ty "str") (u := .type "str") rfl T.z_str (by decide +kernel) rfl) pa_nil))))))))
        (pss_one (ps_dput hu (pe_dget hu (pv 0) (pe_ix (r := rIx K) ix_seq (pv 1) pe_int (fun _ _ => rfl)) (fun _ _ => rfl)) pe_str pe_int rfl)) pss_nil))), ?_⟩
    cases dd with
    | place o b p m s y =>
      have hd : xs = [.str "place", .int o, .str (sideStr b), optV p, .int m, optV s, .str y.str] := hd
      subst hd
      obtain ⟨ty, tyx, kit⟩ := ans_tuple hf hv
      refine dix rfl ht rfl ⟨rfl, _, rfl, ifY rfl ⟨_, rfl, v, .ty "tuple", ty, .type "tuple", _, rfl, .ty _, tyx, kit, _, rfl, ?_⟩⟩
      cases a with
      | placed n es =>
        obtain ⟨tt, r, ys, rfl, htt, _, _⟩ := hv
        refine iteT fun q hq => ?_
        have s1 := same_new (o := .dK []) hq
        have ht1 := s1 _ _ ht
        refine dix rfl ht1 rfl (dix rfl ht1 rfl (dix rfl ht1 rfl (dix rfl ht1 rfl (dix rfl ht1 rfl ⟨upd_same, recF { ad := q, n := n, own := o, buy := b, price := p, left := m, way := y }, rfl, by show 5 ≤ 15; decide, ?_⟩))))
        rw [upd_upd, merge_recF]
        have s2 := same_new (o := .dK (recF { ad := q, n := n, own := o, buy := b, price := p, left := m, way := y })) hq
        refine ⟨_, rfl, dix rfl (s2 _ _ htt) rfl ⟨rd, _, rfl, .inl ⟨_, Sum.inl n, s2 _ _ hR.dc, rfl, by rw [List.length_map]; exact Nat.lt_of_le_of_lt hlen (by decide), rfl⟩, ?_⟩⟩
        have hA := hR.add (r := { ad := q, n := n, own := o, buy := b, price := p, left := m, way := y }) (hnew n es rfl) hq s2 upd_same
        have rk : RKeep rd rs H (upd (upd H q (.dK (recF { ad := q, n := n, own := o, buy := b, price := p, left := m, way := y }))) rd (.dK (putK (rs.map recE) (Sum.inl n) (.ref q)))) := fun c u e n1 _ => by
          rw [upd_ne n1]
          exact s2 c u e
        have ht2 := rk t _ ht (ne_of ht hR.dc (by intro z; cases z)) fun x hx => ne_of (hR.os x hx) ht (by intro z; cases z)
        exact dix rfl ht2 rfl ⟨rfl, _, rfl, ifN (by intro z; cases z) (iteF (dix rfl ht2 rfl ⟨rfl, _, rfl, ifN (by intro z; cases z) (iteF (k _ q (.inr hq) hA rk))⟩))⟩
      | bad => exact iteF (dix rfl ht rfl ⟨rfl, _, rfl, ifN (by intro z; cases z) (iteF (dix rfl ht rfl ⟨rfl, _, rfl, ifN (by intro z; cases z) (iteF (k H 0 (.inl rfl) hR (.of (L2.Same.refl _))))⟩))⟩)
      | now => exact iteF (dix rfl ht rfl ⟨rfl, _, rfl, ifN (by intro z; cases z) (iteF (dix rfl ht rfl ⟨rfl, _, rfl, ifN (by intro z; cases z) (iteF (k H 0 (.inl rfl) hR (.of (L2.Same.refl _))))⟩))⟩)
      | _ => exact hf.elim
    | change n m =>
      have hd : xs = [.str "change", .int n, .int m] := hd
      subst hd
      refine dix rfl ht rfl ⟨rfl, _, rfl, ifN (by intro z; cases z) (iteF (dix rfl ht rfl ⟨rfl, _, rfl, ifY rfl ⟨_, rfl, _, rfl, ?_⟩⟩))⟩
      cases a with
      | done =>
        cases (show v = .non from hv)
        obtain ⟨r, hrr, rn⟩ := hchg n m rfl rfl
        subst rn
        refine ifY rfl (dix rfl ht rfl ⟨_, rfl, dix rfl ht rfl ⟨rd, .ref r.ad, rfl, .inl ⟨_, Sum.inl r.n, .inl hR.dc, rfl, (val_rec hR.ndn hrr).symm⟩, r.ad, _, rfl, .inl ⟨_, Sum.inr "left", hR.os r hrr, rfl, by show 5 < sizeLine; decide, rfl⟩, ?_⟩⟩)
        rw [put_left]
        have rk : RKeep rd rs H (upd H r.ad (.dK (recF { r with left := m }))) := fun c u e _ n2 => by
          rw [upd_ne (Ne.symm (n2 r hrr))]
          exact e
        have ht2 := rk t _ ht (ne_of ht hR.dc (by intro z; cases z)) fun x hx => ne_of (hR.os x hx) ht (by intro z; cases z)
        exact dix rfl ht2 rfl ⟨rfl, _, rfl, ifN (by intro z; cases z) (iteF (k _ 0 (.inl rfl) (hR.set hrr m) rk))⟩
      | bad =>
        cases (show v = .str "bad" from hv)
        exact ifN (by intro z; cases z) (dix rfl ht rfl ⟨rfl, _, rfl, ifN (by intro z; cases z) (iteF (k H 0 (.inl rfl) hR (.of (L2.Same.refl _))))⟩)
      | none =>
        cases (show v = .str "none" from hv)
        exact ifN (by intro z; cases z) (dix rfl ht rfl ⟨rfl, _, rfl, ifN (by intro z; cases z) (iteF (k H 0 (.inl rfl) hR (.of (L2.Same.refl _))))⟩)
      | _ => exact hf.elim
    | cancel n =>
      obtain ⟨m, hd⟩ := (show ∃ m, xs = [.str "cancel", .int n, .int m] from hd)
      subst hd
      refine dix rfl ht rfl ⟨rfl, _, rfl, ifN (by intro z; cases z) (iteF (dix rfl ht rfl ⟨rfl, _, rfl, ifN (by intro z; cases z) (iteF (dix rfl ht rfl ⟨rfl, _, rfl, ifY rfl ?_⟩))⟩))⟩
      cases a with
      | left q =>
        cases (show v = .int q from hv)
        obtain ⟨r, hrr, rn⟩ := hcan n q rfl rfl
        subst rn
        refine ⟨_, rfl, .int q, .ty "str", .type "int", .type "str", false, rfl, .ty _, .base (.int q), kit_ty (by decide +kernel), _, rfl, iteT ⟨_, rfl, dix rfl ht rfl ⟨rd, .ref r.ad, rfl, .inl ⟨_, Sum.inl r.n, .inl hR.dc, rfl, (val_rec hR.ndn hrr).symm⟩, r.ad, _, rfl, .inl ⟨_, Sum.inr "left", hR.os r hrr, rfl, by show 5 < sizeLine; decide, rfl⟩, ?_⟩⟩⟩
        rw [put_left]
        exact k _ 0 (.inl rfl) (hR.set hrr 0) fun c u e _ n2 => by
          rw [upd_ne (Ne.symm (n2 r hrr))]
          exact e
      | none =>
        cases (show v = .str "none" from hv)
        exact ⟨_, rfl, .str "none", .ty "str", .type "str", .type "str", true, rfl, .ty _, .base (.str _), kit_ty (by decide +kernel), _, rfl, iteF (k H 0 (.inl rfl) hR (.of (L2.Same.refl _)))⟩
      | _ => exact hf.elim
    | call =>
      obtain ⟨l, hd⟩ := (show ∃ l, xs = .str "call" :: l from hd)
      subst hd
      have a0 : atI (V.str "call" :: l) 0 = some (.str "call") := atI_nat (j := 0) rfl
      have e : keepR rs .call a 0 = rs := by cases a <;> rfl
      have en : a.num = none := by cases a <;> first | rfl | exact hf.elim
      exact dix rfl ht a0 ⟨rfl, _, rfl, ifN (by intro z; cases z) (iteF (dix rfl ht a0 ⟨rfl, _, rfl, ifN (by intro z; cases z) (iteF (dix rfl ht a0 ⟨rfl, _, rfl, ifN (by intro z; cases z) (iteF (k H 0 (.inl en) (by rw [e]; exact hR) (.of (L2.Same.refl _))))⟩))⟩))⟩
    | uncross =>
      obtain ⟨l, hd⟩ := (show ∃ l, xs = .str "uncross" :: l from hd)
      subst hd
      have a0 : atI (V.str "uncross" :: l) 0 = some (.str "uncross") := atI_nat (j := 0) rfl
      have e : keepR rs .uncross a 0 = rs := by cases a <;> rfl
      have en : a.num = none := by cases a <;> first | rfl | exact hf.elim
      exact dix rfl ht a0 ⟨rfl, _, rfl, ifN (by intro z; cases z) (iteF (dix rfl ht a0 ⟨rfl, _, rfl, ifN (by intro z; cases z) (iteF (dix rfl ht a0 ⟨rfl, _, rfl, ifN (by intro z; cases z) (iteF (k H 0 (.inl en) (by rw [e]; exact hR) (.of (L2.Same.refl _))))⟩))⟩))⟩
  · obtain ⟨fd, F⟩ := T.f_l_keep
    exact F.kp
end
end FB

set_option maxRecDepth 100000
set_option maxHeartbeats 4000000
/-! Plain: the rows stand in order; the best of a call's prices; behind a call nobody crosses. -/
namespace FB
/-! ### the rows -/
theorem Lt3.irrefl (a : Ord) : ¬ Lt3 a a := by
  unfold Lt3
  omega
theorem leO_iff (a b : Ord) : leO a b = true ↔ ¬ Lt3 b a := by
  unfold leO
  simp
theorem leO_trans (a b c : Ord) (h1 : leO a b = true) (h2 : leO b c = true) : leO a c = true := by
  rw [leO_iff] at *
  unfold Lt3 at *
  omega
theorem leO_total (a b : Ord) : (leO a b || leO b a) = true := by
  rw [Bool.or_eq_true, leO_iff, leO_iff]
  unfold Lt3
  omega
theorem row_sorted (os : List Ord) (side : Bool) : (row os side).Pairwise fun a b => leO a b = true := by
  unfold row
  exact List.pairwise_mergeSort leO_trans leO_total _
theorem leO_k1 {a b : Ord} (h : leO a b = true) : a.k1 ≤ b.k1 := by
  rw [leO_iff] at h
  unfold Lt3 at h
  omega
theorem head_k1 {x : Ord} {l : List Ord} (h : (x :: l).Pairwise fun a b => leO a b = true) : ∀ y ∈ x :: l, x.k1 ≤ y.k1 := fun y hy => by
  rcases List.mem_cons.mp hy with e | hy
  · rw [e]
    exact Int.le_refl _
  · exact leO_k1 (List.rel_of_pairwise_cons h hy)
/-- no buy order reaches a sell order -/
def NC (os : List Ord) : Prop := ∀ x ∈ os, ∀ y ∈ os, x.buy = true → y.buy = false → x.pr < y.pr
theorem k1_buy {o : Ord} (h : o.buy = true) : o.k1 = -o.pr := by
  unfold Ord.k1
  rw [h]
  rfl
theorem k1_sell {o : Ord} (h : o.buy = false) : o.k1 = o.pr := by
  unfold Ord.k1
  rw [h]
  rfl
theorem crossed_nc (os : List Ord) : crossed os = false ↔ NC os := by
  unfold crossed
  cases e1 : row os true with
  | nil =>
    refine ⟨fun _ x hx y hy hb _ => ?_, fun _ => rfl⟩
    have := row_mem.mpr ⟨hx, hb⟩
    rw [e1] at this
    cases this
  | cons b bs =>
    cases e2 : row os false with
    | nil =>
      refine ⟨fun _ x hx y hy _ hb => ?_, fun _ => rfl⟩
      have := row_mem.mpr ⟨hy, hb⟩
      rw [e2] at this
      cases this
    | cons s ss =>
      have s1 := row_sorted os true
      have s2 := row_sorted os false
      rw [e1] at s1
      rw [e2] at s2
      have mb := row_mem.mp (show b ∈ row os true by rw [e1]; exact List.mem_cons_self)
      have ms := row_mem.mp (show s ∈ row os false by rw [e2]; exact List.mem_cons_self)
      show decide (s.pr ≤ b.pr) = false ↔ _
      rw [decide_eq_false_iff_not]
      refine ⟨fun h x hx y hy xb yb => ?_, fun h => by have := h b mb.1 s ms.1 mb.2 ms.2; omega⟩
      have q1 := head_k1 s1 x (by rw [← e1]; exact row_mem.mpr ⟨hx, xb⟩)
      have q2 := head_k1 s2 y (by rw [← e2]; exact row_mem.mpr ⟨hy, yb⟩)
      rw [k1_buy mb.2, k1_buy xb] at q1
      rw [k1_sell ms.2, k1_sell yb] at q2
      omega
/-! ### the best of some ranks -/
theorem ltL_irrefl : ∀ a : List Int, ltL a a = false
  | [] => rfl
  | x :: xs => by
    unfold ltL
    rw [if_pos rfl]
    exact ltL_irrefl xs
theorem ltL_trans : ∀ {a b c : List Int}, ltL a b = true → ltL b c = true → ltL a c = true
  | [], [], _, h, _ => by cases h
  | [], _ :: _, [], _, h => by cases h
  | [], _ :: _, _ :: _, _, _ => rfl
  | _ :: _, [], _, h, _ => by cases h
  | _ :: _, _ :: _, [], _, h => by cases h
  | x :: xs, y :: ys, z :: zs, h1, h2 => by
    unfold ltL at *
    by_cases e1 : x = y
    · rw [if_pos e1] at h1
      by_cases e2 : y = z
      · rw [if_pos e2] at h2
        rw [if_pos (e1.trans e2)]
        exact ltL_trans h1 h2
      · rw [if_neg e2] at h2
        rw [if_neg (by rw [e1]; exact e2), e1]
        exact h2
    · rw [if_neg e1] at h1
      have h1 := of_decide_eq_true h1
      by_cases e2 : y = z
      · rw [if_neg (by omega)]
        exact decide_eq_true (by omega)
      · rw [if_neg e2] at h2
        have h2 := of_decide_eq_true h2
        rw [if_neg (by omega)]
        exact decide_eq_true (by omega)
theorem ltL_cotrans : ∀ {a b : List Int} (c : List Int), ltL a b = true → ltL a c = true ∨ ltL c b = true
  | [], [], _, h => by cases h
  | [], _ :: _, [], _ => .inr rfl
  | [], _ :: _, _ :: _, _ => .inl rfl
  | _ :: _, [], _, h => by cases h
  | _ :: _, _ :: _, [], _ => .inr rfl
  | x :: xs, y :: ys, z :: zs, h => by
    unfold ltL at *
    by_cases e1 : x = y
    · rw [if_pos e1] at h
      subst e1
      by_cases e2 : x = z
      · subst e2
        rw [if_pos rfl, if_pos rfl]
        exact ltL_cotrans zs h
      · rw [if_neg e2, if_neg (Ne.symm e2)]
        rcases Int.lt_or_gt_of_ne e2 with q | q
        · exact .inl (decide_eq_true q)
        · exact .inr (decide_eq_true q)
    · rw [if_neg e1] at h
      have h := of_decide_eq_true h
      by_cases q : x < z
      · rw [if_neg (by omega : ¬ x = z)]
        exact .inl (decide_eq_true q)
      · rw [if_neg (by omega : ¬ z = y)]
        exact .inr (decide_eq_true (by omega))
theorem better_best : ∀ (l : List (List Int)) (b : Option (List Int)) (r : List Int), l.foldl better b = some r → (∀ x ∈ l, ltL x r = false) ∧ ∀ c, b = some c → ltL c r = false
  | [], b, r, h => by
    refine ⟨nofun, fun c e => ?_⟩
    have h : b = some r := h
    rw [e] at h
    rw [Option.some.inj h]
    exact ltL_irrefl r
  | x :: l, b, r, h => by
    rw [List.foldl_cons] at h
    obtain ⟨h1, h2⟩ := better_best l (better b x) r h
    cases b with
    | none =>
      refine ⟨fun y hy => ?_, nofun⟩
      rcases List.mem_cons.mp hy with e | hy
      · rw [e]
        exact h2 x rfl
      · exact h1 y hy
    | some c =>
      by_cases q : ltL x c = true
      · have e : better (some c) x = some x := if_pos q
        have hx := h2 x e
        refine ⟨fun y hy => ?_, fun c' e' => ?_⟩
        · rcases List.mem_cons.mp hy with e | hy
          · rw [e]
            exact hx
          · exact h1 y hy
        · cases e'
          cases hc : ltL c r with
          | false => rfl
          | true => exact absurd (ltL_trans q hc) (by rw [hx]; decide)
      · have e : better (some c) x = some c := if_neg q
        have hc := h2 c e
        refine ⟨fun y hy => ?_, fun c' e' => ?_⟩
        · rcases List.mem_cons.mp hy with e | hy
          · rw [e]
            cases hx : ltL x r with
            | false => rfl
            | true =>
              rcases ltL_cotrans c hx with z | z
              · exact absurd z q
              · rw [hc] at z
                cases z
          · exact h1 y hy
        · cases e'
          exact hc
/-- at no price of an order can more be traded -/
theorem callPrice_most {os : List Ord} {last : Option Int} {p n : Int} (h : callPrice os last = some (p, n)) : ∀ o ∈ os, imin (wanted os true o.pr) (wanted os false o.pr) ≤ n := fun o ho => by
  obtain ⟨_, _, _, e2, _, hb⟩ := callPrice_some h
  have k := (better_best _ _ _ hb).1 (rank os last o.pr) (List.mem_map.mpr ⟨o, ho, rfl⟩)
  unfold rank at k
  unfold ltL at k
  by_cases e : -imin (wanted os true o.pr) (wanted os false o.pr) = -imin (wanted os true p) (wanted os false p)
  · omega
  · rw [if_neg e] at k
    have := of_decide_eq_false k
    omega
theorem callPrice_none {os : List Ord} {last : Option Int} (hr : ∀ o ∈ os, 0 ≤ o.rest) (h : callPrice os last = none) : ∀ o ∈ os, imin (wanted os true o.pr) (wanted os false o.pr) = 0 := fun o ho => by
  have nn := imin_nonneg (wanted_nonneg hr true o.pr) (wanted_nonneg hr false o.pr)
  unfold callPrice at h
  cases e : bestOf os last with
  | none =>
    exfalso
    have : ∀ (l : List (List Int)) (b : Option (List Int)), (l ≠ [] ∨ b ≠ none) → l.foldl better b ≠ none := by
      intro l
      induction l with
      | nil =>
        intro b hb
        rcases hb with hb | hb
        · exact absurd rfl hb
        · exact hb
      | cons x l ih =>
        intro b _
        rw [List.foldl_cons]
        refine ih _ (.inr ?_)
        unfold better
        cases b with
        | none => exact fun z => nomatch z
        | some c =>
          show (if ltL x c = true then some x else some c) ≠ none
          split <;> exact fun z => nomatch z
    refine this _ _ (.inl ?_) e
    intro z
    have := List.map_eq_nil_iff.mp z
    rw [this] at ho
    cases ho
  | some r =>
    obtain ⟨o', ho', er⟩ := best_mem e
    have k := (better_best _ _ _ e).1 (rank os last o.pr) (List.mem_map.mpr ⟨o, ho, rfl⟩)
    rw [e, er] at h
    rw [er] at k
    unfold rank at h k
    have h : (if -imin (wanted os true o'.pr) (wanted os false o'.pr) = 0 then none else some (o'.pr, - -imin (wanted os true o'.pr) (wanted os false o'.pr))) = none := h
    by_cases c : -imin (wanted os true o'.pr) (wanted os false o'.pr) = 0
    · unfold ltL at k
      by_cases c2 : -imin (wanted os true o.pr) (wanted os false o.pr) = -imin (wanted os true o'.pr) (wanted os false o'.pr)
      · omega
      · rw [if_neg c2] at k
        have := of_decide_eq_false k
        omega
    · rw [if_neg c] at h
      cases h
/-! ### a row of which the first are traded -/
/-- t taken off, from the front -/
def trim : Int → List Ord → List Ord
  | _, [] => []
  | t, x :: l => if t ≤ 0 then x :: l else if x.rest ≤ t then trim (t - x.rest) l else lessen x t :: l
theorem trim_zero {t : Int} (h : t ≤ 0) (l : List Ord) : trim t l = l := by
  cases l with
  | nil => rfl
  | cons x l =>
    unfold trim
    rw [if_pos h]
theorem lessen_lessen (o : Ord) (a b : Int) : lessen (lessen o a) b = lessen o (a + b) := by
  unfold lessen Ord.show Ord.shown
  have e : o.rest - a - b = o.rest - (a + b) := by omega
  show ({ o with rest := o.rest - a - b, part := match o.shows with | none => o.rest - a - b | some s => imin s (o.rest - a - b) } : Ord) = _
  rw [e] <;> rfl
theorem trim_trim {m : Int} (hm : 0 ≤ m) : ∀ {l : List Ord} {t : Int}, 0 ≤ t → (∀ x ∈ l, 1 ≤ x.rest) → trim m (trim t l) = trim (t + m) l
  | [], t, _, _ => rfl
  | x :: l, t, ht, hl => by
    have hx := hl x List.mem_cons_self
    by_cases e0 : t ≤ 0
    · rw [trim_zero e0]
      congr 1
      omega
    · by_cases e1 : x.rest ≤ t
      · have a1 : trim t (x :: l) = trim (t - x.rest) l := by
          show (if t ≤ 0 then x :: l else if x.rest ≤ t then trim (t - x.rest) l else lessen x t :: l) = _
          rw [if_neg e0, if_pos e1]
        have a2 : trim (t + m) (x :: l) = trim (t + m - x.rest) l := by
          show (if t + m ≤ 0 then x :: l else if x.rest ≤ t + m then trim (t + m - x.rest) l else lessen x (t + m) :: l) = _
          rw [if_neg (by omega), if_pos (by omega)]
        rw [a1, a2, trim_trim hm (by omega) fun y hy => hl y (List.mem_cons_of_mem _ hy)]
        congr 1
        omega
      · have a1 : trim t (x :: l) = lessen x t :: l := by
          show (if t ≤ 0 then x :: l else if x.rest ≤ t then trim (t - x.rest) l else lessen x t :: l) = _
          rw [if_neg e0, if_neg e1]
        rw [a1]
        have er : (lessen x t).rest = x.rest - t := rfl
        show (if m ≤ 0 then lessen x t :: l else if (lessen x t).rest ≤ m then trim (m - (lessen x t).rest) l else lessen (lessen x t) m :: l) = (if t + m ≤ 0 then x :: l else if x.rest ≤ t + m then trim (t + m - x.rest) l else lessen x (t + m) :: l)
        rw [if_neg (show ¬ t + m ≤ 0 by omega), er, lessen_lessen]
        by_cases c0 : m ≤ 0
        · have : m = 0 := by omega
          subst this
          rw [if_pos c0, if_neg (by omega), Int.add_zero]
        · rw [if_neg c0]
          by_cases c1 : x.rest - t ≤ m
          · rw [if_pos c1, if_pos (by omega)]
            congr 1
            omega
          · rw [if_neg c1, if_neg (by omega)]
theorem trim_like : ∀ {l : List Ord} {t : Int} {x : Ord}, x ∈ trim t l → ∃ y ∈ l, Like x y
  | [], _, _, h => by cases h
  | a :: l, t, x, h => by
    unfold trim at h
    by_cases e0 : t ≤ 0
    · rw [if_pos e0] at h
      exact ⟨x, h, Like.refl x⟩
    · rw [if_neg e0] at h
      by_cases e1 : a.rest ≤ t
      · rw [if_pos e1] at h
        obtain ⟨y, hy, k⟩ := trim_like h
        exact ⟨y, List.mem_cons_of_mem _ hy, k⟩
      · rw [if_neg e1] at h
        rcases List.mem_cons.mp h with e | h
        · rw [e]
          exact ⟨a, List.mem_cons_self, lessen_like a t⟩
        · exact ⟨x, List.mem_cons_of_mem _ h, Like.refl x⟩
theorem Like.k1 {x y : Ord} (a : Like x y) : x.k1 = y.k1 := by
  unfold Ord.k1
  rw [a.buy, a.pr]
/-- how many are left of those as good as k -/
def upK (k : Int) (l : List Ord) : Int := ((l.filter fun o => decide (o.k1 ≤ k)).map (·.rest)).sum
theorem upK_cons (k : Int) (a : Ord) (l : List Ord) : upK k (a :: l) = (if a.k1 ≤ k then a.rest else 0) + upK k l := by
  unfold upK
  rw [List.filter_cons]
  by_cases c : a.k1 ≤ k
  · rw [if_pos (decide_eq_true c), if_pos c, List.map_cons, List.sum_cons]
  · rw [if_neg (by simpa using c), if_neg c, Int.zero_add]
theorem upK_nonneg {k : Int} : ∀ {l : List Ord}, (∀ x ∈ l, 1 ≤ x.rest) → 0 ≤ upK k l
  | [], _ => Int.le_refl _
  | a :: l, h => by
    rw [upK_cons]
    have := upK_nonneg (k := k) (l := l) fun x hx => h x (List.mem_cons_of_mem _ hx)
    have := h a List.mem_cons_self
    split <;> omega
theorem upK_mem {k : Int} : ∀ {l : List Ord} {x : Ord}, (∀ x ∈ l, 1 ≤ x.rest) → x ∈ l → x.k1 ≤ k → x.rest ≤ upK k l
  | [], _, _, h, _ => by cases h
  | a :: l, x, hl, h, hk => by
    rw [upK_cons]
    have h1 := upK_nonneg (k := k) (l := l) fun x hx => hl x (List.mem_cons_of_mem _ hx)
    have h2 := hl a List.mem_cons_self
    rcases List.mem_cons.mp h with e | h
    · rw [← e, if_pos hk]
      omega
    · have := upK_mem (fun x hx => hl x (List.mem_cons_of_mem _ hx)) h hk
      split <;> omega
theorem trim_upK : ∀ {l : List Ord} {t : Int} {x : Ord}, l.Pairwise (fun a b => leO a b = true) → (∀ x ∈ l, 1 ≤ x.rest) → 0 ≤ t → x ∈ trim t l → t + x.rest ≤ upK x.k1 l
  | [], _, _, _, _, _, h => by cases h
  | a :: l, t, x, hp, hl, ht, h => by
    have hl' : ∀ x ∈ l, 1 ≤ x.rest := fun x hx => hl x (List.mem_cons_of_mem _ hx)
    have hp' := (List.pairwise_cons.mp hp).2
    have ha := head_k1 hp
    unfold trim at h
    by_cases e0 : t ≤ 0
    · rw [if_pos e0] at h
      have := upK_mem hl h (Int.le_refl _)
      omega
    · rw [if_neg e0] at h
      by_cases e1 : a.rest ≤ t
      · rw [if_pos e1] at h
        have ih := trim_upK hp' hl' (by omega) h
        obtain ⟨y, hy, k⟩ := trim_like h
        have := ha y (List.mem_cons_of_mem _ hy)
        rw [upK_cons, if_pos (by rw [k.k1]; exact this)]
        omega
      · rw [if_neg e1] at h
        rcases List.mem_cons.mp h with e | h
        · rw [e, (lessen_like a t).k1, upK_cons, if_pos (Int.le_refl _)]
          have h0 := upK_nonneg (k := a.k1) hl'
          have er : (lessen a t).rest = a.rest - t := rfl
          omega
        · rw [upK_cons, if_pos (ha x (List.mem_cons_of_mem _ h))]
          have := upK_mem hl' h (Int.le_refl _)
          omega
/-! ### the end of a call -/
theorem live_trim {b : Ord} {bs : List Ord} {m : Int} (h1 : 1 ≤ m) (h2 : m ≤ b.rest) (hl : ∀ x ∈ bs, 1 ≤ x.rest) : liveO (lessen b m :: bs) = trim m (b :: bs) := by
  rw [liveO_cons (o := lessen b m) hl]
  have er : (lessen b m).rest = b.rest - m := rfl
  show _ = (if m ≤ 0 then b :: bs else if b.rest ≤ m then trim (m - b.rest) bs else lessen b m :: bs)
  rw [if_neg (show ¬ m ≤ 0 by omega)]
  by_cases c : b.rest ≤ m
  · rw [if_neg (show ¬ 0 < (lessen b m).rest by omega), if_pos c, trim_zero (by omega)]
  · rw [if_pos (show 0 < (lessen b m).rest by omega), if_neg c]
structure UInv (n : Int) (R1 R2 : List Ord) (u : US) : Prop where
  le : u.left ≤ n
  buys : u.buys = trim (n - u.left) R1
  sells : u.sells = trim (n - u.left) R2
  ob : ∀ o ∈ u.B.ords, o.buy = true → o ∈ u.buys
  os : ∀ o ∈ u.B.ords, o.buy = false → o ∈ u.sells
theorem uinv_step {p n : Int} {R1 R2 : List Ord} (h1 : ∀ x ∈ R1, 1 ≤ x.rest) (h2 : ∀ x ∈ R2, 1 ≤ x.rest) {u u' : US} {c : CTr} (h : UOk u) (I : UInv n R1 R2 u) (hs : ustep p u = some (c, u')) : UInv n R1 R2 u' := by
  have h0 : 0 < u.left := by
    by_cases h0 : 0 < u.left
    · exact h0
    · rw [ustep_none h0] at hs
      cases hs
  obtain ⟨b, bs, s, ss, eb, es⟩ := h.heads h0
  rw [ustep_some h0 eb es] at hs
  have e := Option.some.inj hs
  have eu : u' = _ := (congrArg Prod.snd e).symm
  clear hs e
  have hb := h.bs b (by rw [eb]; exact List.mem_cons_self)
  have hs := h.ss s (by rw [es]; exact List.mem_cons_self)
  have qb := h.ok.os b hb.1
  have qs := h.ok.os s hs.1
  have ml := least3_le u.left b.rest s.rest
  have mo := least3_or u.left b.rest s.rest
  generalize hm : least3 u.left b.rest s.rest = m at *
  have hbr := qb.rest
  have hsr := qs.rest
  have m1 : 1 ≤ m := by omega
  have lb : ∀ x ∈ bs, 1 ≤ x.rest := fun x hx => (h.ok.os x (h.bs x (by rw [eb]; exact List.mem_cons_of_mem _ hx)).1).rest
  have ls : ∀ x ∈ ss, 1 ≤ x.rest := fun x hx => (h.ok.os x (h.ss x (by rw [es]; exact List.mem_cons_of_mem _ hx)).1).rest
  have le := I.le
  have tb : liveO (lessen b m :: bs) = trim (n - (u.left - m)) R1 := by
    rw [live_trim m1 ml.2.1 lb, ← eb, I.buys, trim_trim (by omega) (by omega) h1]
    congr 1
    omega
  have ts : liveO (lessen s m :: ss) = trim (n - (u.left - m)) R2 := by
    rw [live_trim m1 ml.2.2 ls, ← es, I.sells, trim_trim (by omega) (by omega) h2]
    congr 1
    omega
  have inb : ∀ x, (x = lessen b m ∧ (lessen b m).rest ≠ 0) ∨ x ∈ bs → x ∈ liveO (lessen b m :: bs) := fun x hx => by
    rw [liveO_cons (o := lessen b m) lb]
    have er : (lessen b m).rest = b.rest - m := rfl
    by_cases q : 0 < (lessen b m).rest
    · rw [if_pos q]
      rcases hx with ⟨e, _⟩ | hx
      · rw [e]
        exact List.mem_cons_self
      · exact List.mem_cons_of_mem _ hx
    · rw [if_neg q]
      rcases hx with ⟨_, e⟩ | hx
      · exfalso
        omega
      · exact hx
  have ins : ∀ x, (x = lessen s m ∧ (lessen s m).rest ≠ 0) ∨ x ∈ ss → x ∈ liveO (lessen s m :: ss) := fun x hx => by
    rw [liveO_cons (o := lessen s m) ls]
    have er : (lessen s m).rest = s.rest - m := rfl
    by_cases q : 0 < (lessen s m).rest
    · rw [if_pos q]
      rcases hx with ⟨e, _⟩ | hx
      · rw [e]
        exact List.mem_cons_self
      · exact List.mem_cons_of_mem _ hx
    · rw [if_neg q]
      rcases hx with ⟨_, e⟩ | hx
      · exfalso
        omega
      · exact hx
  rw [eu]
  refine ⟨by show u.left - m ≤ n; omega, tb, ts, fun o ho hbuy => ?_, fun o ho hbuy => ?_⟩
  · rcases mem_takeOff ho with ⟨e, _⟩ | ⟨ho, _⟩
    · rw [e] at hbuy
      have : s.buy = true := hbuy
      rw [hs.2] at this
      cases this
    · rcases mem_takeOff ho with ⟨e, q⟩ | ⟨ho, q⟩
      · exact inb o (.inl ⟨e, q⟩)
      · have := I.ob o ho hbuy
        rw [eb] at this
        rcases List.mem_cons.mp this with e | hx
        · rw [e] at q
          exact absurd rfl q
        · exact inb o (.inr hx)
  · rcases mem_takeOff ho with ⟨e, q⟩ | ⟨ho, q⟩
    · exact ins o (.inl ⟨e, q⟩)
    · rcases mem_takeOff ho with ⟨e, _⟩ | ⟨ho, _⟩
      · rw [e] at hbuy
        have : b.buy = false := hbuy
        rw [hb.2] at this
        cases this
      · have := I.os o ho hbuy
        rw [es] at this
        rcases List.mem_cons.mp this with e | hx
        · rw [e] at q
          exact absurd rfl q
        · exact ins o (.inr hx)
/-- what the steps keep, at their end -/
theorem uiter_end {p : Int} {I : US → Prop} (hs : ∀ u c u', UOk u → I u → ustep p u = some (c, u') → I u') : ∀ (k : Nat) (u : US), UOk u → I u → u.left.toNat ≤ k → UOk (iter (ustep p) k u).2 ∧ I (iter (ustep p) k u).2 ∧ (iter (ustep p) k u).2.left = 0
  | 0, u, h, i, hk => ⟨h, i, by have := h.l0; show u.left = 0; omega⟩
  | k + 1, u, h, i, hk => by
    cases e : ustep p u with
    | none =>
      rw [iter_none e]
      refine ⟨h, i, ?_⟩
      by_cases h0 : 0 < u.left
      · obtain ⟨b, bs, s, ss, eb, es⟩ := h.heads h0
        rw [ustep_some h0 eb es] at e
        cases e
      · have := h.l0
        show u.left = 0
        omega
    | some q =>
      obtain ⟨c, u'⟩ := q
      have o := ustep_ok h e
      have mu := o.mu
      unfold muU at mu
      rw [iter_succ, e]
      exact uiter_end hs k u' o.ok (hs u c u' h i e) (by omega)
theorem wanted_upK {os : List Ord} (hp : ∀ o ∈ os, o.price = some o.pr) (side : Bool) (q : Int) : wanted os side q = upK (if side then -q else q) (row os side) := by
  unfold wanted upK
  congr 2
  refine List.filter_congr fun o ho => ?_
  obtain ⟨h1, h2⟩ := row_mem.mp ho
  unfold Ord.suits
  rw [hp o h1, h2]
  cases side with
  | true =>
    rw [k1_buy h2]
    show decide (q ≤ o.pr) = decide (-o.pr ≤ -q)
    exact decide_eq_decide.mpr (by omega)
  | false =>
    rw [k1_sell h2]
    rfl
/-- what the end of a call leaves -/
structure UncEnd (B B' : Bk) (n : Int) : Prop where
  n0 : 0 ≤ n
  ob : ∀ o ∈ B'.ords, o.buy = true → o ∈ trim n (row B.ords true)
  os : ∀ o ∈ B'.ords, o.buy = false → o ∈ trim n (row B.ords false)
  most : ∀ o ∈ B.ords, imin (wanted B.ords true o.pr) (wanted B.ords false o.pr) ≤ n
theorem uncross_end {B : Bk} (h : BkOk B) : ∃ n, UncEnd B (uncrossB B).2 n := by
  have hr : ∀ o ∈ B.ords, 0 ≤ o.rest := fun o ho => by have := (h.os o ho).rest; omega
  unfold uncrossB
  cases e : callPrice B.ords B.last with
  | none =>
    refine ⟨0, Int.le_refl 0, fun o ho hb => ?_, fun o ho hb => ?_, fun o ho => Int.le_of_eq (callPrice_none hr e o ho)⟩
    · rw [trim_zero (Int.le_refl 0)]
      exact row_mem.mpr ⟨ho, hb⟩
    · rw [trim_zero (Int.le_refl 0)]
      exact row_mem.mpr ⟨ho, hb⟩
  | some q =>
    obtain ⟨p, n⟩ := q
    have k := callPrice_bound hr e
    have r1 : ∀ side, ∀ x ∈ row B.ords side, 1 ≤ x.rest := fun side x hx => (h.os x (row_mem.mp hx).1).rest
    have E := uiter_end (p := p) (I := UInv n (row B.ords true) (row B.ords false)) (fun u c u' hu i hs => uinv_step (r1 true) (r1 false) hu i hs) n.toNat _ (ustart_ok h e)
      ⟨Int.le_refl n, by rw [trim_zero (by show n - n ≤ 0; omega)], by rw [trim_zero (by show n - n ≤ 0; omega)], fun o ho hb => row_mem.mpr ⟨ho, hb⟩, fun o ho hb => row_mem.mpr ⟨ho, hb⟩⟩ (Nat.le_refl _)
    obtain ⟨E1, E2, E3⟩ := E
    refine ⟨n, Int.le_of_lt k.1, fun o ho hb => ?_, fun o ho hb => ?_, callPrice_most e⟩
    · have q1 := E2.ob o ho hb
      have q2 := E2.buys
      rw [E3, Int.sub_zero] at q2
      rw [← q2]
      exact q1
    · have q1 := E2.os o ho hb
      have q2 := E2.sells
      rw [E3, Int.sub_zero] at q2
      rw [← q2]
      exact q1
theorem uncross_nc {B : Bk} (h : BkOk B) : NC (uncrossB B).2.ords := by
  obtain ⟨n, E⟩ := uncross_end h
  have U := uncross_ok h
  intro x hx y hy xb yb
  refine Int.lt_of_not_ge fun hle => ?_
  have hp : ∀ o ∈ B.ords, o.price = some o.pr := fun o ho => (h.os o ho).price
  have r1 : ∀ side, ∀ x ∈ row B.ords side, 1 ≤ x.rest := fun side x hx => (h.os x (row_mem.mp hx).1).rest
  have t1 := trim_upK (row_sorted B.ords true) (r1 true) E.n0 (E.ob x hx xb)
  have t2 := trim_upK (row_sorted B.ords false) (r1 false) E.n0 (E.os y hy yb)
  obtain ⟨x0, hx0, lx, _⟩ := U.within x hx
  have qx := (U.ok.os x hx).rest
  have qy := (U.ok.os y hy).rest
  have w1 := wanted_upK hp true x0.pr
  have w2 := wanted_upK hp false x0.pr
  rw [if_pos rfl] at w1
  rw [if_neg Bool.false_ne_true] at w2
  rw [k1_buy xb, lx.pr] at t1
  rw [k1_sell yb] at t2
  have mono : ∀ {k k' : Int} {l : List Ord}, k ≤ k' → (∀ x ∈ l, 1 ≤ x.rest) → upK k l ≤ upK k' l := by
    intro k k' l hk
    induction l with
    | nil => exact fun _ => Int.le_refl _
    | cons a l ih =>
      intro hl
      rw [upK_cons, upK_cons]
      have := ih fun x hx => hl x (List.mem_cons_of_mem _ hx)
      have := hl a List.mem_cons_self
      by_cases c : a.k1 ≤ k
      · rw [if_pos c, if_pos (Int.le_trans c hk)]
        omega
      · rw [if_neg c]
        split <;> omega
  have t3 := mono (k := y.pr) (k' := x0.pr) (by rw [← lx.pr]; exact hle) (r1 false)
  have m := E.most x0 hx0
  rcases imin_or (wanted B.ords true x0.pr) (wanted B.ords false x0.pr) with e | e <;> omega
/-! ### outside of a call nobody crosses -/
theorem NC.within {os os' : List Ord} (h : NC os) (w : Within os' os) : NC os' := fun x hx y hy xb yb => by
  obtain ⟨x0, h1, l1, _⟩ := w x hx
  obtain ⟨y0, h2, l2, _⟩ := w y hy
  rw [l1.pr, l2.pr]
  exact h x0 h1 y0 h2 (l1.buy ▸ xb) (l2.buy ▸ yb)
/-- where an order that comes stops with something left, no other's price suits it -/
theorem stop_suits {s : Bk × Ord} (h : step1 s = none) (h0 : 0 < s.2.rest) : ∀ y ∈ s.1.ords, y.buy = !s.2.buy → s.2.suits y.pr = false := fun y hy yb => by
  have my := row_mem.mpr ⟨hy, yb⟩
  have rs := row_sorted s.1.ords (!s.2.buy)
  cases e : row s.1.ords (!s.2.buy) with
  | nil =>
    rw [e] at my
    cases my
  | cons one r =>
    have ho : one.buy = !s.2.buy := (row_mem.mp (show one ∈ row s.1.ords (!s.2.buy) by rw [e]; exact List.mem_cons_self)).2
    have hs : s.2.suits one.pr = false := by
      cases q : s.2.suits one.pr with
      | false => rfl
      | true =>
        unfold step1 at h
        rw [if_pos h0, e] at h
        have h : (if s.2.suits one.pr = true then _ else none : Option (Ev × (Bk × Ord))) = none := h
        rw [if_pos q] at h
        by_cases c : one.own = s.2.own
        · rw [if_pos c] at h
          cases h
        · rw [if_neg c] at h
          cases h
    rw [e] at rs my
    have k := head_k1 rs y my
    unfold Ord.suits at hs ⊢
    cases ep : s.2.price with
    | none =>
      rw [ep] at hs
      cases hs
    | some q =>
      rw [ep] at hs
      cases eb : s.2.buy with
      | true =>
        rw [eb] at hs ho yb
        rw [k1_sell ho, k1_sell yb] at k
        have hs := of_decide_eq_false hs
        exact decide_eq_false (by omega)
      | false =>
        rw [eb] at hs ho yb
        rw [k1_buy ho, k1_buy yb] at k
        have hs := of_decide_eq_false hs
        exact decide_eq_false (by omega)
theorem place_nc {B : Bk} (h : BkOk B) {ad : Nat} {owner : Int} {buy : Bool} {price : Option Int} {many : Int} {shows : Option Int} {w : Way} (g : Parts price many shows w) (hc : B.calling = false) (hn : NC B.ords) :
    NC (placeB B (newOrd B ad owner buy price many shows) w).2.ords := by
  obtain ⟨r, hr, e⟩ := place_cases B (newOrd B ad owner buy price many shows) w
  rw [e]
  show NC (if w = .rest ∧ 0 < r.2.2.rest then r.2.1.put r.2.2 else r.2.1 : Bk).ords
  rcases hr with ⟨q, _, _⟩ | ⟨q, hw⟩
  · have m := match_ok (s := (B.next, newOrd B ad owner buy price many shows)) (many_ok h)
    rw [← q] at m
    have n1 : NC r.2.1.ords := hn.within m.within
    by_cases c : w = .rest ∧ 0 < r.2.2.rest
    · rw [if_pos c]
      have st := stop_suits m.stop c.2
      have ep : ∃ p, price = some p := by
        cases e : price with
        | none => exact absurd c.1 (g.pn e)
        | some p => exact ⟨p, rfl⟩
      obtain ⟨p, ep⟩ := ep
      have e1 : r.2.2.price = some p := m.like.price.trans ep
      have e2 : r.2.2.pr = p := by
        unfold Ord.pr
        rw [e1]
        rfl
      have su : ∀ y, r.2.2.suits y = if r.2.2.buy then decide (y ≤ p) else decide (p ≤ y) := fun y => by
        unfold Ord.suits
        rw [e1]
      intro x hx y hy xb yb
      have hx : x ∈ putO r.2.1.ords ({ r.2.2 with place := r.2.1.places + 1 } : Ord).show := hx
      have hy : y ∈ putO r.2.1.ords ({ r.2.2 with place := r.2.1.places + 1 } : Ord).show := hy
      rcases mem_putO hx with ex | ⟨hx, _⟩ <;> rcases mem_putO hy with ey | ⟨hy, _⟩
      · rw [ex] at xb
        rw [ey] at yb
        have xb : r.2.2.buy = true := xb
        have yb : r.2.2.buy = false := yb
        rw [xb] at yb
        cases yb
      · rw [ex] at xb ⊢
        have xb : r.2.2.buy = true := xb
        have k := st y hy (by rw [xb]; exact yb)
        rw [su, xb] at k
        have k := of_decide_eq_false k
        show r.2.2.pr < y.pr
        omega
      · rw [ey] at yb ⊢
        have yb : r.2.2.buy = false := yb
        have k := st x hx (by rw [yb]; exact xb)
        rw [su, yb] at k
        have k := of_decide_eq_false k
        show x.pr < r.2.2.pr
        omega
      · exact n1 x hx y hy xb yb
    · rw [if_neg c]
      exact n1
  · rcases hw with hw | ⟨hw, _⟩
    · rw [hc] at hw
      cases hw
    · rw [if_neg (fun z => by rw [hw] at z; exact absurd z.1 (by decide)), q]
      exact hn
/-- the book's own invariant -/
def Fair (B : Bk) : Prop := B.calling = false → NC B.ords
theorem did_fair {B B' : Bk} {dd : Deed} {a : Ans} (h : BkOk B) (f : Fair B) (d : Did B dd a B') : Fair B' := by
  cases dd with
  | place o b p m s y =>
    rcases d with ⟨_, _, rfl⟩ | ⟨_, _, _, _, rfl⟩ | ⟨g, _, ad, _, rfl⟩
    · exact f
    · exact f
    · intro hc
      rw [(place_ok h g).calling] at hc
      exact place_nc h g hc (f hc)
  | cancel n =>
    rcases d with ⟨o, ho, _, rfl⟩ | ⟨_, _, rfl⟩
    · exact fun hc => (f hc).within (within_drop _ _)
    · exact f
  | change n m =>
    rcases d with ⟨o, ho, hm, _, rfl⟩ | ⟨_, _, _, _, rfl⟩ | ⟨_, _, rfl⟩
    · have C := change_ok h (find_some ho).1 hm
      intro hc
      rw [C.calling] at hc
      intro x hx y hy xb yb
      obtain ⟨x0, h1, l1, _⟩ := C.from_ x hx
      obtain ⟨y0, h2, l2, _⟩ := C.from_ y hy
      rw [l1.pr, l2.pr]
      exact f hc x0 h1 y0 h2 (l1.buy ▸ xb) (l2.buy ▸ yb)
    · exact f
    · exact f
  | call =>
    rcases d with ⟨_, _, rfl⟩ | ⟨_, _, rfl⟩
    · exact fun hc => nomatch hc
    · exact f
  | uncross =>
    rcases d with ⟨_, _, rfl⟩ | ⟨_, _, rfl⟩
    · exact fun _ => uncross_nc h
    · exact f
end FB

set_option maxRecDepth 100000
set_option maxHeartbeats 4000000
/-! The answers as data; what a law with a record keeps from turn to turn. -/
namespace FB
open PySem PySem.Spec PyProof.Rows L2
/-! ### the answers as data -/
def evD : Ev → PyData
  | .trade n p m => .tuple [.str "trade", .int n, .int p, .int m]
  | .out n => .tuple [.str "out", .int n]
def ctD (c : CTr) : PyData := .tuple [.str "trade", .int c.b, .int c.s, .int c.p, .int c.m]
def Ans.data : Ans → PyData
  | .bad => .str "bad"
  | .none => .str "none"
  | .now => .str "now"
  | .placed n es => .tuple [.int n, .list (es.map evD)]
  | .left n => .int n
  | .done => .none
  | .trades cs => .list (cs.map ctD)
theorem dpAll_of {α : Type} {K : PySem.W.Frag} {H : Hp} {F : α → V → Prop} {g : α → PyData} (hF : ∀ x v, F x v → Dp K H v (g x)) : ∀ {l : List α} {vs : List V}, Paired F l vs → DpAll K H vs (l.map g)
  | _, _, .nil => .nil
  | _, _, .cons h t => .cons (hF _ _ h) (dpAll_of hF t)
theorem ev_dp {K : PySem.W.Frag} {H : Hp} {e : Ev} {v : V} (h : EvAt H e v) : Dp K H v (evD e) := by
  obtain ⟨t, rfl, ht⟩ := h
  cases e with
  | trade n p m => exact .tup (.inl (.inl ht)) (.cons (.str _) (.cons (.int n) (.cons (.int p) (.cons (.int m) .nil))))
  | out n => exact .tup (.inl (.inl ht)) (.cons (.str _) (.cons (.int n) .nil))
theorem ct_dp {K : PySem.W.Frag} {H : Hp} {c : CTr} {v : V} (h : CtAt H c v) : Dp K H v (ctD c) := by
  obtain ⟨t, rfl, ht⟩ := h
  exact .tup (.inl (.inl ht)) (.cons (.str _) (.cons (.int _) (.cons (.int _) (.cons (.int _) (.cons (.int _) .nil)))))
theorem ans_dp {K : PySem.W.Frag} {H : Hp} {a : Ans} {v : V} (h : a.At H v) : Dp K H v a.data := by
  cases a with
  | placed n es =>
    obtain ⟨t, r, ys, rfl, ht, hr, p⟩ := h
    exact .tup (.inl (.inl ht)) (.cons (.int n) (.cons (.lst (.inl (.inl hr)) (dpAll_of (F := EvAt H) (g := evD) (fun _ _ => ev_dp) p)) .nil))
  | trades cs =>
    obtain ⟨r, ys, rfl, hr, p⟩ := h
    exact .lst (.inl (.inl hr)) (dpAll_of (F := CtAt H) (g := ctD) (fun _ _ => ct_dp) p)
  | left n => cases (show v = .int n from h); exact .int n
  | done => cases (show v = .non from h); exact .non
  | bad => cases (show v = .str "bad" from h); exact .str _
  | none => cases (show v = .str "none" from h); exact .str _
  | now => cases (show v = .str "now" from h); exact .str _
theorem lay_all {g : PyData → Bool} : ∀ {l : List PyData}, (∀ x ∈ l, PyData.canLay0 x = true) → PyData.canLayAll0 l = true
  | [], _ => rfl
  | x :: l, h => by
    show (PyData.canLay0 x && PyData.canLayAll0 l) = true
    rw [h x List.mem_cons_self, lay_all (g := g) fun y hy => h y (List.mem_cons_of_mem _ hy)]
    rfl
theorem depth_all {n : Nat} : ∀ {l : List PyData}, (∀ x ∈ l, PyData.depth x ≤ n) → PyData.depthAll l ≤ n
  | [], _ => Nat.zero_le _
  | x :: l, h => by
    show max (PyData.depth x) (PyData.depthAll l) ≤ n
    have := h x List.mem_cons_self
    have := depth_all fun y hy => h y (List.mem_cons_of_mem _ hy)
    omega
theorem evD_ok (e : Ev) : PyData.canLay0 (evD e) = true ∧ PyData.depth (evD e) ≤ 1 := by
  cases e with
  | trade n p m => exact ⟨by show (PyData.strOk "trade" && (true && (true && (true && true)))) = true; decide +kernel, by simp [evD, PyData.depth, PyData.depthAll]⟩
  | out n => exact ⟨by show (PyData.strOk "out" && (true && true)) = true; decide +kernel, by simp [evD, PyData.depth, PyData.depthAll]⟩
theorem ctD_ok (c : CTr) : PyData.canLay0 (ctD c) = true ∧ PyData.depth (ctD c) ≤ 1 :=
  ⟨by show (PyData.strOk "trade" && (true && (true && (true && (true && true))))) = true; decide +kernel, by simp [ctD, PyData.depth, PyData.depthAll]⟩
theorem list_shaped {l : List PyData} (h : ∀ x ∈ l, PyData.canLay0 x = true ∧ PyData.depth x ≤ 1) : PyData.canLay0 (.list l) = true ∧ PyData.depth (.list l) ≤ 2 := by
  refine ⟨lay_all (g := fun _ => true) fun x hx => (h x hx).1, ?_⟩
  have := depth_all (n := 1) fun x hx => (h x hx).2
  show PyData.depthAll l + 1 ≤ 2
  omega
theorem ans_shaped (a : Ans) : SeqAt.shaped a.data = true := by
  unfold SeqAt.shaped
  refine Bool.and_eq_true_iff.mpr ?_
  cases a with
  | placed n es =>
    have h := list_shaped (l := es.map evD) fun x hx => by
      obtain ⟨e, _, q⟩ := List.mem_map.mp hx
      rw [← q]
      exact evD_ok e
    refine ⟨?_, decide_eq_true ?_⟩
    · show (true && (PyData.canLay0 (.list (es.map evD)) && true)) = true
      rw [h.1]
      rfl
    · show max 0 (max (PyData.depth (.list (es.map evD))) 0) + 1 ≤ 64
      omega
  | trades cs =>
    have h := list_shaped (l := cs.map ctD) fun x hx => by
      obtain ⟨e, _, q⟩ := List.mem_map.mp hx
      rw [← q]
      exact ctD_ok e
    refine ⟨h.1, decide_eq_true ?_⟩
    show PyData.depth (.list (cs.map ctD)) ≤ 64
    omega
  | _ => exact ⟨by first | rfl | (show PyData.strOk _ = true; decide +kernel), rfl⟩
theorem ans_wrong (a : Ans) : PyData.eqv a.data (.str "wrong") = false := by
  cases a with
  | bad => decide +kernel
  | none => decide +kernel
  | now => decide +kernel
  | _ => rfl
theorem wrong_shaped : SeqAt.shaped (.str "wrong") = true := by decide +kernel
/-! ### a law with a record -/
structure LI (K : PySem.W.Frag) (a b d rd : Addr) (ns : List Int) (i : Nat) (H : Hp) (B : Bk) (rs : List Rec) : Prop where
  sq : SqL K H a (ns.map V.int)
  hB : BookAt K H b d B
  ok : BkOk B
  hR : RecAt H rd rs
  n1 : rd ≠ d
  n2 : ∀ r ∈ rs, r.ad ≠ d
  known : Known B rs
  fair : Fair B
  len : B.ords.length ≤ i
  rlen : rs.length ≤ i
section
variable {K : PySem.W.Frag} {a b d rd : Addr} {ns : List Int} {i : Nat} {H H1 H2 : Hp} {B B' : Bk} {rs : List Rec} {dd : Deed} {an : Ans} {ad : Nat}
theorem LI.same (h : LI K a b d rd ns i H B rs) (s : L2.Same H H1) : LI K a b d rd ns i H1 B rs :=
  ⟨same_seqL s h.sq, h.hB.same s, h.ok, h.hR.same s, h.n1, h.n2, h.known, h.fair, h.len, h.rlen⟩
theorem LI.more (h : LI K a b d rd ns i H B rs) : LI K a b d rd ns (i + 1) H B rs :=
  ⟨h.sq, h.hB, h.ok, h.hR, h.n1, h.n2, h.known, h.fair, Nat.le_succ_of_le h.len, Nat.le_succ_of_le h.rlen⟩
theorem LI.fresh (h : LI K a b d rd ns i H B rs) (di : Did B dd an B') : ∀ n es, an = .placed n es → ∀ r ∈ rs, r.n ≠ n := fun n es e r hr z => by
  have := ((did_ok h.ok di).new n es e).1
  have := h.known.lt r hr
  omega
theorem LI.chg (h : LI K a b d rd ns i H B rs) (di : Did B dd an B') : ∀ n m, dd = .change n m → an = .done → ∃ r ∈ rs, r.n = n := fun n m e1 e2 => by
  obtain ⟨o, ho, e⟩ := (did_ok h.ok di).chg n m e1 e2
  obtain ⟨r, hr, q, _⟩ := h.known.of o ho
  exact ⟨r, hr, q.trans e⟩
theorem LI.can (h : LI K a b d rd ns i H B rs) (di : Did B dd an B') : ∀ n k, dd = .cancel n → an = .left k → ∃ r ∈ rs, r.n = n := fun n m e1 e2 => by
  obtain ⟨o, ho, e⟩ := (did_ok h.ok di).can n m e1 e2
  obtain ⟨r, hr, q, _⟩ := h.known.of o ho
  exact ⟨r, hr, q.trans e⟩
theorem keep_len : (keepR rs dd an ad).length ≤ rs.length + 1 := by
  unfold keepR
  split
  · simp
  · unfold setLeft
    simp
  · unfold setLeft
    simp
  · omega
theorem keep_ad {r : Rec} (h : r ∈ keepR rs dd an ad) : (∃ r0 ∈ rs, r.ad = r0.ad) ∨ (an.num.isSome = true ∧ r.ad = ad) := by
  unfold keepR at h
  split at h
  · rcases List.mem_append.mp h with h | h
    · exact .inl ⟨r, h, rfl⟩
    · rw [List.mem_singleton.mp h]
      exact .inr ⟨rfl, rfl⟩
  · obtain ⟨r0, h0, _, e, _⟩ := mem_setLeft h
    exact .inl ⟨r0, h0, e⟩
  · obtain ⟨r0, h0, _, e, _⟩ := mem_setLeft h
    exact .inl ⟨r0, h0, e⟩
  · exact .inl ⟨r, h, rfl⟩
/-- behind a deed, ahead of the record -/
theorem LI.mid (h : LI K a b d rd ns i H B rs) (k : Kd d H H1) : RecAt H1 rd rs := h.hR.kd k h.n1 h.n2
theorem LI.turn (h : LI K a b d rd ns i H B rs) (di : Did B dd an B') (hB' : BookAt K H1 b d B') (k : Kd d H H1) (had : an.num = none ∨ H1 ad = none) (hR2 : RecAt H2 rd (keepR rs dd an ad)) (rk : RKeep rd rs H1 H2) :
    LI K a b d rd ns (i + 1) H2 B' (keepR rs dd an ad) := by
  have D := did_ok h.ok di
  have hR1 := h.mid k
  refine ⟨rk_seqL rk hR1 (kd_seqL k ⟨_, h.hB.dc⟩ h.sq), hB'.rk rk hR1 h.n1 h.n2, D.ok, hR2, h.n1, fun r hr => ?_, known_did h.known D, did_fair h.ok h.fair di, Nat.le_trans D.len (Nat.succ_le_succ h.len), Nat.le_trans keep_len (Nat.succ_le_succ h.rlen)⟩
  rcases keep_ad hr with ⟨r0, h0, e⟩ | ⟨e1, e⟩
  · rw [e]
    exact h.n2 r0 h0
  · rw [e]
    rcases had with q | q
    · rw [q] at e1
      cases e1
    · intro z
      rw [z, hB'.dc] at q
      cases q
end
theorem rest_num (os : List Ord) (side : Bool) : (resting os side).map V.int = (row os side).map fun o => V.int o.num := by
  unfold resting
  rw [List.map_map]
  rfl
theorem rec_get {σ : L2.St} {H : Hp} {Q : VK} {rd : Addr} {rs : List Rec} {r : Rec} {i j : Nat} {f : Str} {v : V} (h1 : σ[i]? = some (some (.ref rd))) (h2 : σ[j]? = some (some (.int r.n))) (hR : RecAt H rd rs) (hr : r ∈ rs) (e : valV (recF r) (Sum.inr f) = some v) (q : Q v H) :
    tDGet (tDGet (tVar i) (tVar j)) (tC (.str f)) σ H Q :=
  ⟨_, h1, _, h2, rd, _, rfl, .inl ⟨_, Sum.inl r.n, .inl hR.dc, rfl, (val_rec hR.ndn hr).symm⟩, r.ad, v, rfl, .inl ⟨_, Sum.inr f, .inl (hR.os r hr), rfl, e.symm⟩, q⟩
end FB

set_option maxRecDepth 100000
set_option maxHeartbeats 4000000
/-! Plain: rows as the only list in order; what the end of a call leaves, row by row. -/
namespace FB
open PySem PySem.Spec PyProof.Rows L2
theorem trim_sorted : ∀ {l : List Ord} {t : Int}, l.Pairwise (fun a b => leO a b = true) → (trim t l).Pairwise fun a b => leO a b = true
  | [], _, h => h
  | a :: l, t, h => by
    have k := List.pairwise_cons.mp h
    unfold trim
    by_cases e0 : t ≤ 0
    · rw [if_pos e0]
      exact h
    · rw [if_neg e0]
      by_cases e1 : a.rest ≤ t
      · rw [if_pos e1]
        exact trim_sorted k.2
      · rw [if_neg e1]
        exact List.pairwise_cons.mpr ⟨fun x hx => (show leO a x = true from k.1 x hx), k.2⟩
theorem row_unique {os : List Ord} {side : Bool} {l : List Ord} (nd : (os.map (·.num)).Nodup) (h1 : ∀ o ∈ l, o ∈ os ∧ o.buy = side) (h2 : ∀ o ∈ os, o.buy = side → o ∈ l) (nl : (l.map (·.num)).Nodup) (hs : l.Pairwise fun a b => leO a b = true) : row os side = l := by
  have n1 : ∀ {m : List Ord}, (m.map (·.num)).Nodup → m.Nodup := fun {m} h => (List.pairwise_map.mp h).imp fun h e => h (congrArg _ e)
  refine List.Perm.eq_of_pairwise (le := fun a b => leO a b = true) (fun a b ha hb h k => ?_) (row_sorted os side) hs ((List.perm_ext_iff_of_nodup (n1 (nodup_row nd)) (n1 nl)).mpr fun o => ?_)
  · refine nodup_inj nd (row_mem.mp ha).1 (h1 b hb).1 ?_
    rw [leO_iff] at h k
    unfold Lt3 at h k
    omega
  · exact ⟨fun h => h2 o (row_mem.mp h).1 (row_mem.mp h).2, fun h => row_mem.mpr (h1 o h)⟩
theorem iter_len {S E : Type} (step : S → Option (E × S)) : ∀ (n : Nat) (s : S), (iter step n s).1.length ≤ n
  | 0, _ => Nat.le_refl _
  | n + 1, s => by
    rw [iter_succ]
    cases step s with
    | none => exact Nat.zero_le _
    | some q => exact Nat.succ_le_succ (iter_len step n q.2)
theorem unc_len {B : Bk} (h : BkOk B) (hl : B.ords.length ≤ 900) : (uncrossB B).1.length ≤ 9000000 := by
  unfold uncrossB
  cases q : callPrice B.ords B.last with
  | none => exact Nat.zero_le _
  | some w =>
    obtain ⟨p, n⟩ := w
    refine Nat.le_trans (iter_len _ _ _) ?_
    have k := callPrice_bound (fun o ho => by have := (h.os o ho).rest; omega) q
    have r := restSum_le (os := row B.ords true) fun o ho => (h.os o (row_mem.mp ho).1).rmax
    have l := row_len B.ords true
    omega
/-! ### a test: a if c else b -/
def tIfT (t ta tb : TT) : TT := fun σ H Q => t σ H fun c H1 => if c = true then ta σ H1 Q else tb σ H1 Q
theorem pt_ifExp {X : Cx} {c a b : Expr} {pos : Pos} {tA ta tb : TT} (hc : PT X c tA) (ha : PT X a ta) (hb : PT X b tb) : PT X (.IfExp c a b pos) (tIfT tA ta tb) := by
  refine ⟨fun pins s σ H Q I h => ?_⟩
  have e : isTrue (.IfExp c a b pos) X.env (eval (.IfExp c a b pos) X.env) = (do if ← isTrue c X.env (eval c X.env) then isTrue a X.env (eval a X.env) else isTrue b X.env (eval b X.env)) := by rfl
  rw [e]
  refine wpAny_bind (wpAny_mono (hc.run pins s σ H _ I h) (fun d s1 ⟨H1, I1, q1⟩ => ?_) fun _ _ x => x)
  cases d with
  | true => exact ha.run pins s1 σ H1 Q I1 q1
  | false => exact hb.run pins s1 σ H1 Q I1 q1
/-! ### lists of numbers as data -/
theorem ints_shaped (l : List Int) : SeqAt.shaped (.list (l.map PyData.int)) = true := by
  have h := list_shaped (l := l.map PyData.int) fun x hx => by
    obtain ⟨i, _, q⟩ := List.mem_map.mp hx
    rw [← q]
    exact ⟨rfl, Nat.zero_le _⟩
  unfold SeqAt.shaped
  rw [h.1]
  show decide (_ ≤ 64) = true
  exact decide_eq_true (by omega)
theorem eqv_same {d : PyData} (h : SeqAt.shaped d = true) : PyData.eqv d d = true := SeqAt.eqv_refl d (Bool.and_eq_true_iff.mp h).1
theorem two_shaped (l m : List Int) : SeqAt.shaped (.list [.list (l.map PyData.int), .list (m.map PyData.int)]) = true := by
  have one : ∀ l : List Int, PyData.canLay0 (.list (l.map PyData.int)) = true ∧ PyData.depth (.list (l.map PyData.int)) ≤ 2 := fun l => list_shaped fun x hx => by
    obtain ⟨i, _, q⟩ := List.mem_map.mp hx
    rw [← q]
    exact ⟨rfl, Nat.zero_le _⟩
  unfold SeqAt.shaped
  refine Bool.and_eq_true_iff.mpr ⟨?_, decide_eq_true ?_⟩
  · show (PyData.canLay0 (.list (l.map PyData.int)) && (PyData.canLay0 (.list (m.map PyData.int)) && true)) = true
    rw [(one l).1, (one m).1]
    rfl
  · show max (PyData.depth (.list (l.map PyData.int))) (max (PyData.depth (.list (m.map PyData.int))) 0) + 1 ≤ 64
    have h1 := (one l).2
    have h2 := (one m).2
    omega
theorem dpAll_ints {K : PySem.W.Frag} {H : Hp} : ∀ l : List Int, DpAll K H (l.map V.int) (l.map PyData.int)
  | [] => .nil
  | i :: l => .cons (.int i) (dpAll_ints l)
theorem dp_ints {K : PySem.W.Frag} {H : Hp} {p : Addr} {l : List Int} (h : H p = some (.lst (l.map V.int))) : Dp K H (.ref p) (.list (l.map PyData.int)) := .lst (.inl (.inl h)) (dpAll_ints l)
theorem eqv_nil (l : List Int) : PyData.eqv (.list (l.map PyData.int)) (.list []) = l.isEmpty := by cases l <;> rfl
theorem all_true {α : Type} (l : List α) : (l.map fun _ => true).all id = true := by
  induction l with
  | nil => rfl
  | cons a l ih =>
    rw [List.map_cons, List.all_cons, ih]
    rfl
theorem map_true {α : Type} (l : List α) : (l.map fun _ => V.bl true) = (l.map fun _ => true).map V.bl := by
  rw [List.map_map]
  rfl
theorem row_pr (os : List Ord) (side : Bool) : ((row os side).map fun o => V.int o.pr) = ((row os side).map (·.pr)).map V.int := by
  rw [List.map_map]
  rfl
theorem inV_ints (n : Int) : ∀ l : List Int, inV (.int n) (l.map V.int) = decide (n ∈ l)
  | [] => by
    show false = _
    exact (decide_eq_false (by simp)).symm
  | a :: l => by
    show (eqV (.int a) (.int n) || inV (.int n) (l.map V.int)) = _
    rw [inV_ints n l]
    show (a == n || _) = _
    by_cases h : a = n
    · subst h
      rw [beq_self_eq_true, decide_eq_true List.mem_cons_self]
      rfl
    · have e : (a == n) = false := by
        rw [beq_eq_false_iff_ne]
        exact h
      rw [e, Bool.false_or]
      refine decide_eq_decide.mpr ⟨fun k => List.mem_cons_of_mem _ k, fun k => ?_⟩
      rcases List.mem_cons.mp k with z | z
      · exact absurd z.symm h
      · exact z
theorem flat_ints : ∀ l : List Int, (l.map V.int).all flatV = true
  | [] => rfl
  | a :: l => by
    rw [List.map_cons, List.all_cons, flat_ints l]
    rfl
theorem cut_take {xs : List V} {q : Nat} (h : q ≤ xs.length) : cutV xs none (some (q : Int)) = xs.take q := by
  unfold cutV
  rw [HT.sIx_none, HT.sIx_nat, Nat.min_eq_left h]
  rfl
theorem cut_last (xs : List V) : cutV xs none (some (-1)) = xs.dropLast := by
  unfold cutV
  rw [HT.sIx_none, List.dropLast_eq_take]
  show (xs.drop 0).take ((-1 + (xs.length : Int)).toNat - 0) = _
  rw [List.drop_zero]
  congr 1
  omega
theorem dixv {K : PySem.W.Frag} {j l : Nat} {σ : L2.St} {H : Hp} {Q : VK} {t : Addr} {xs : List V} {i : Int} {v : V} (h : σ[j]? = some (some (.ref t))) (hl : σ[l]? = some (some (.int i))) (ht : H t = some (.tup xs)) (e : atI xs i = some v) (q : Q v H) : tOp (rIx K) (tVar j) (tVar l) σ H Q :=
  ⟨_, h, _, hl, .inr (.inl ⟨t, xs, i, v, rfl, rfl, .inl (.inl ht), e, q⟩)⟩
theorem lixv {K : PySem.W.Frag} {j l : Nat} {σ : L2.St} {H : Hp} {Q : VK} {t : Addr} {xs : List V} {i : Int} {v : V} (h : σ[j]? = some (some (.ref t))) (hl : σ[l]? = some (some (.int i))) (ht : H t = some (.lst xs)) (e : atI xs i = some v) (q : Q v H) : tOp (rIx K) (tVar j) (tVar l) σ H Q :=
  ⟨_, h, _, hl, .inl ⟨t, xs, i, v, rfl, rfl, .inl (.inl ht), e, q⟩⟩
theorem lix {K : PySem.W.Frag} {j : Nat} {σ : L2.St} {H : Hp} {Q : VK} {t : Addr} {xs : List V} {i : Int} {v : V} (h : σ[j]? = some (some (.ref t))) (ht : H t = some (.lst xs)) (e : atI xs i = some v) (q : Q v H) : tOp (rIx K) (tVar j) (tC (.int i)) σ H Q :=
  ⟨_, h, .inl ⟨t, xs, i, v, rfl, rfl, .inl (.inl ht), e, q⟩⟩
theorem paired_at {α β : Type} {F : α → β → Prop} : ∀ {l : List α} {m : List β}, Paired F l m → ∀ {i : Nat} {y : β}, m[i]? = some y → ∃ x, l[i]? = some x ∧ F x y
  | _, _, .nil, i, y, h => by cases h
  | _, _, .cons r t, 0, y, h => ⟨_, rfl, by cases h; exact r⟩
  | _, _, .cons r t, i + 1, y, h => paired_at t h
theorem take_next {α : Type} {cs : List α} {i : Nat} {x : α} (h : cs[i]? = some x) : cs.take (i + 1) = cs.take i ++ [x] := by
  rw [List.take_add_one, h]
  rfl
/-- the answer's list of numbers, out of a comprehension over pairs -/
theorem zip_map {α β γ : Type} {l : List α} {m : List β} {f : α → γ} (h : m.length = l.length) : ((l.zip m).map fun z => f z.1) = l.map f := by
  have e : (l.zip m).map (fun z => f z.1) = ((l.zip m).map Prod.fst).map f := by
    rw [List.map_map]
    rfl
  rw [e, zip_fst h]
theorem zip_filter {α β γ : Type} {q : α → Bool} {f : α → γ} : ∀ {l : List α} {m : List β}, m.length = l.length → ((l.zip m).filter fun z => q z.1).map (fun z => f z.1) = (l.filter q).map f
  | [], [], _ => rfl
  | a :: l, b :: m, h => by
    rw [List.zip_cons_cons, List.filter_cons, List.filter_cons]
    have ih := zip_filter (q := q) (f := f) (l := l) (m := m) (by simpa using h)
    by_cases c : q a = true
    · rw [if_pos c, if_pos c, List.map_cons, List.map_cons, ih]
    · rw [if_neg c, if_neg c, ih]
theorem evs_shaped (es : List Ev) : SeqAt.shaped (.list (es.map evD)) = true := by
  have h := list_shaped (l := es.map evD) fun x hx => by
    obtain ⟨e, _, q⟩ := List.mem_map.mp hx
    rw [← q]
    exact evD_ok e
  unfold SeqAt.shaped
  rw [h.1]
  show decide (_ ≤ 64) = true
  exact decide_eq_true (by omega)
theorem eqv_none {α : Type} (g : α → PyData) (l : List α) : PyData.eqv (.list (l.map g)) (.list []) = l.isEmpty := by cases l <;> rfl
/-! ### what a deed's word is; lists and tuples that stand -/
def Deed.word : Deed → Str
  | .place _ _ _ _ _ _ => "place"
  | .cancel _ => "cancel"
  | .change _ _ => "change"
  | .call => "call"
  | .uncross => "uncross"
theorem deed_word {dd : Deed} {xs : List V} (h : dd.At xs) : atI xs 0 = some (.str dd.word) := by
  cases dd with
  | place o b p m s y => rw [show xs = _ from h]; exact atI_nat (j := 0) rfl
  | cancel n => obtain ⟨m, e⟩ := h; rw [e]; exact atI_nat (j := 0) rfl
  | change n m => rw [show xs = _ from h]; exact atI_nat (j := 0) rfl
  | call => obtain ⟨l, e⟩ := h; rw [e]; exact atI_nat (j := 0) rfl
  | uncross => obtain ⟨l, e⟩ := h; rw [e]; exact atI_nat (j := 0) rfl
/-- lists and tuples stay -/
def SeqKeep (H H' : Hp) : Prop := (∀ t xs, H t = some (.tup xs) → H' t = some (.tup xs)) ∧ ∀ t xs, H t = some (.lst xs) → H' t = some (.lst xs)
theorem SeqKeep.rk {rd : Addr} {rs : List Rec} {H H' : Hp} (k : RKeep rd rs H H') (hR : RecAt H rd rs) : SeqKeep H H' :=
  ⟨fun t xs e => k t _ e (ne_of e hR.dc (by intro z; cases z)) fun r hr => ne_of (hR.os r hr) e (by intro z; cases z), fun t xs e => k t _ e (ne_of e hR.dc (by intro z; cases z)) fun r hr => ne_of (hR.os r hr) e (by intro z; cases z)⟩
theorem SeqKeep.of {H H' : Hp} (s : L2.Same H H') : SeqKeep H H' := ⟨fun t xs e => s _ _ e, fun t xs e => s _ _ e⟩
theorem Ans.At.keep {H H' : Hp} {a : Ans} {v : V} (h : a.At H v) (k : SeqKeep H H') : a.At H' v := by
  cases a with
  | placed n es =>
    obtain ⟨t, r, ys, rfl, ht, hr, p⟩ := h
    exact ⟨t, r, ys, rfl, k.1 _ _ ht, k.2 _ _ hr, evs_keep p k.1⟩
  | trades cs =>
    obtain ⟨r, ys, rfl, hr, p⟩ := h
    exact ⟨r, ys, rfl, k.2 _ _ hr, cts_keep p k.1⟩
  | _ => exact h
theorem did_len {B B' : Bk} {dd : Deed} {n : Int} {es : List Ev} (d : Did B dd (.placed n es) B') (hl : B.ords.length ≤ 900) : es.length ≤ 10900 := by
  cases dd with
  | place o b p m s y =>
    rcases d with ⟨_, e, _⟩ | ⟨_, _, _, e, _⟩ | ⟨g, _, ad, e, _⟩
    · cases e
    · cases e
    · have e := Ans.placed.inj e
      rw [e.2]
      obtain ⟨r, hr, q⟩ := place_cases B (newOrd B ad o b p m s) y
      rw [q]
      rcases hr with ⟨q, _⟩ | ⟨q, _⟩
      · rw [q]
        refine Nat.le_trans (iter_len _ _ _) ?_
        show m.toNat + B.ords.length ≤ 10900
        have := g.m2
        omega
      · rw [q]
        exact Nat.zero_le _
  | cancel n => rcases d with ⟨_, _, e, _⟩ | ⟨_, e, _⟩ <;> cases e
  | change n m => rcases d with ⟨_, _, _, e, _⟩ | ⟨_, _, _, e, _⟩ | ⟨_, e, _⟩ <;> cases e
  | call => rcases d with ⟨_, e, _⟩ | ⟨_, e, _⟩ <;> cases e
  | uncross => rcases d with ⟨_, e, _⟩ | ⟨_, e, _⟩ <;> cases e
theorem SeqKeep.kd {d : Addr} {H H' : Hp} (k : Kd d H H') (n : ∃ kvs, H d = some (.dK kvs)) : SeqKeep H H' := by
  obtain ⟨kvs, e⟩ := n
  exact ⟨fun t xs h => k t _ h rfl (ne_of h e (by intro z; cases z)), fun t xs h => k t _ h rfl (ne_of h e (by intro z; cases z))⟩
theorem SeqKeep.trans {H H1 H2 : Hp} (a : SeqKeep H H1) (b : SeqKeep H1 H2) : SeqKeep H H2 := ⟨fun t xs h => b.1 t xs (a.1 t xs h), fun t xs h => b.2 t xs (a.2 t xs h)⟩
end FB

set_option maxRecDepth 100000
set_option maxHeartbeats 4000000
set_option pp.maxSteps 400
/-! law_k22_whole_best_first. -/
namespace FB
open PySem PySem.Spec PyProof.Rows L2
/-! ### the plain law: the best first -/
def evNum : Ev → Int
  | .trade n _ _ => n
  | .out n => n
def volE : List Ev → Int
  | [] => 0
  | .trade _ _ m :: es => m + volE es
  | .out _ :: es => volE es
structure EvOk (os0 : List Ord) (side : Bool) (e : Ev) (x : Ord) : Prop where
  mem : x ∈ os0
  buy : x.buy = side
  num : evNum e = x.num
  price : ∀ n p m, e = .trade n p m → p = x.pr
inductive Best (os0 : List Ord) (side : Bool) : Int → List Ev → List Ord → Prop
  | nil (lo : Int) : Best os0 side lo [] []
  | cons {lo : Int} {e : Ev} {es : List Ev} {x : Ord} {xs : List Ord} (h : EvOk os0 side e x) (k : lo ≤ x.k1) (t : Best os0 side x.k1 es xs) : Best os0 side lo (e :: es) (x :: xs)
theorem Best.low {os0 : List Ord} {side : Bool} {lo : Int} {es : List Ev} {xs : List Ord} (h : Best os0 side lo es xs) : ∀ x ∈ xs, lo ≤ x.k1 := by
  induction h with
  | nil => exact nofun
  | cons _ k _ ih =>
    intro y hy
    rcases List.mem_cons.mp hy with e | hy
    · rw [e]
      exact k
    · exact Int.le_trans k (ih y hy)
theorem Best.sorted {os0 : List Ord} {side : Bool} {lo : Int} {es : List Ev} {xs : List Ord} (h : Best os0 side lo es xs) : xs.Pairwise fun a b => a.k1 ≤ b.k1 := by
  induction h with
  | nil => exact .nil
  | cons _ _ t ih => exact List.pairwise_cons.mpr ⟨t.low, ih⟩
theorem Best.each {os0 : List Ord} {side : Bool} {lo : Int} {es : List Ev} {xs : List Ord} (h : Best os0 side lo es xs) : ∀ e ∈ es, ∃ x, EvOk os0 side e x := by
  induction h with
  | nil => exact nofun
  | cons h _ _ ih =>
    intro y hy
    rcases List.mem_cons.mp hy with e | hy
    · rw [e]
      exact ⟨_, h⟩
    · exact ih y hy
theorem Best.side_ {os0 : List Ord} {side : Bool} {lo : Int} {es : List Ev} {xs : List Ord} (h : Best os0 side lo es xs) : ∀ x ∈ xs, x.buy = side := by
  induction h with
  | nil => exact nofun
  | cons h _ _ ih =>
    intro y hy
    rcases List.mem_cons.mp hy with e | hy
    · rw [e]
      exact h.buy
    · exact ih y hy
/-- the price of whom an event tells -/
def evPr (os0 : List Ord) (e : Ev) : Int := ((findO os0 (evNum e)).map Ord.pr).getD 0
theorem find_mem {os : List Ord} (hn : (os.map (·.num)).Nodup) {x : Ord} (hx : x ∈ os) : findO os x.num = some x := by
  cases e : findO os x.num with
  | none => exact (List.find?_eq_none.mp e x hx (by simp)).elim
  | some y => rw [nodup_inj hn (find_some e).1 hx (find_some e).2]
theorem EvOk.pr {os0 : List Ord} {side : Bool} {e : Ev} {x : Ord} (hn : (os0.map (·.num)).Nodup) (h : EvOk os0 side e x) : evPr os0 e = x.pr := by
  unfold evPr
  rw [h.num, find_mem hn h.mem]
  rfl
theorem Best.prices {os0 : List Ord} {side : Bool} {lo : Int} {es : List Ev} {xs : List Ord} (hn : (os0.map (·.num)).Nodup) (h : Best os0 side lo es xs) : es.map (evPr os0) = xs.map (·.pr) := by
  induction h with
  | nil => rfl
  | cons h _ _ ih => rw [List.map_cons, List.map_cons, ih, h.pr hn]
theorem best_ok : ∀ (n : Nat) (s : Bk × Ord), mu1 s ≤ n → BkOk s.1 → ∀ (os0 : List Ord) (lo : Int), Within s.1.ords os0 → (∀ x ∈ s.1.ords, x.buy = (!s.2.buy) → lo ≤ x.k1) → ∃ xs, Best os0 (!s.2.buy) lo (matchAll s).1 xs :=
  match_ind (P := fun s => ∀ (os0 : List Ord) (lo : Int), Within s.1.ords os0 → (∀ x ∈ s.1.ords, x.buy = (!s.2.buy) → lo ≤ x.k1) → ∃ xs, Best os0 (!s.2.buy) lo (matchAll s).1 xs)
    (fun s e s' hb h ih os0 lo hw hl => by
      have k := step_ok hb h
      obtain ⟨one, rest, h0, er, hs, hc⟩ := step_cases h
      have mo : one ∈ row s.1.ords (!s.2.buy) := by rw [er]; exact List.mem_cons_self
      obtain ⟨ho, hob⟩ := row_mem.mp mo
      obtain ⟨x0, hx0, l0, _⟩ := hw one ho
      have srt := row_sorted s.1.ords (!s.2.buy)
      have ek : one.k1 = x0.k1 := l0.k1
      have low : ∀ x ∈ s'.1.ords, x.buy = (!s'.2.buy) → x0.k1 ≤ x.k1 := fun x hx hxb => by
        obtain ⟨y, hy, l, _⟩ := k.within x hx
        have yb : y.buy = (!s.2.buy) := by rw [← l.buy, hxb, k.like.buy]
        have my := row_mem.mpr ⟨hy, yb⟩
        rw [er] at my srt
        have := head_k1 srt y my
        rw [l.k1, ← ek]
        exact this
      obtain ⟨xs, hxs⟩ := ih os0 x0.k1 (k.within.trans hw) low
      rw [k.like.buy] at hxs
      rw [match_step hb h]
      refine ⟨x0 :: xs, .cons ⟨hx0, by rw [← l0.buy]; exact hob, ?_, ?_⟩ (by rw [← ek]; exact hl one ho hob) hxs⟩
      · rcases hc with ⟨_, e1, _⟩ | ⟨_, e1, _⟩ <;> rw [e1] <;> exact l0.num
      · intro n p m z
        rcases hc with ⟨_, e1, _⟩ | ⟨_, e1, _⟩
        · rw [e1] at z
          cases z
        · rw [e1] at z
          cases z
          exact l0.pr)
    (fun s hb h os0 lo _ _ => by
      rw [match_none h]
      exact ⟨[], .nil lo⟩)
theorem first_ok {s : Bk × Ord} (hb : BkOk s.1) {e : Ev} {es : List Ev} (h : (matchAll s).1 = e :: es) : ∃ one r, row s.1.ords (!s.2.buy) = one :: r ∧ evNum e = one.num := by
  cases hs : step1 s with
  | none =>
    rw [match_none hs] at h
    cases h
  | some q =>
    obtain ⟨e', s'⟩ := q
    rw [match_step hb hs] at h
    cases h
    obtain ⟨one, rest, _, er, _, hc⟩ := step_cases hs
    refine ⟨one, rest, er, ?_⟩
    rcases hc with ⟨_, e1, _⟩ | ⟨_, e1, _⟩ <;> rw [e1] <;> rfl
theorem vol_ok : ∀ (n : Nat) (s : Bk × Ord), mu1 s ≤ n → BkOk s.1 → (matchAll s).2.2.rest = s.2.rest - volE (matchAll s).1 :=
  match_ind (P := fun s => (matchAll s).2.2.rest = s.2.rest - volE (matchAll s).1)
    (fun s e s' hb h ih => by
      obtain ⟨one, rest, h0, er, hs, hc⟩ := step_cases h
      rw [match_step hb h]
      show (matchAll s').2.2.rest = s.2.rest - volE (e :: (matchAll s').1)
      rw [ih]
      rcases hc with ⟨_, e1, e2⟩ | ⟨_, e1, e2⟩
      · rw [e1]
        have : s'.2 = s.2 := by rw [e2]
        rw [this]
        rfl
      · rw [e1]
        have : s'.2.rest = s.2.rest - cut s.2 one := by rw [e2]; rfl
        show s'.2.rest - volE (matchAll s').1 = s.2.rest - (cut s.2 one + volE (matchAll s').1)
        omega)
    (fun s hb h => by
      rw [match_none h]
      show s.2.rest = s.2.rest - 0
      omega)
/-! ### sums over a book -/
def gsum (f : Ord → Int) (os : List Ord) : Int := (os.map f).sum
theorem gsum_cons (f : Ord → Int) (a : Ord) (os : List Ord) : gsum f (a :: os) = f a + gsum f os := by
  unfold gsum
  rw [List.map_cons, List.sum_cons]
theorem gsum_upd {f : Ord → Int} {o' : Ord} : ∀ {os : List Ord} {o : Ord}, (os.map (·.num)).Nodup → o ∈ os → o'.num = o.num → gsum f (updO os o') = gsum f os - f o + f o'
  | [], _, _, h, _ => by cases h
  | a :: os, o, hn, h, e => by
    have e1 : updO (a :: os) o' = (if a.num = o'.num then o' else a) :: updO os o' := rfl
    rw [List.map_cons, List.nodup_cons] at hn
    rw [e1, gsum_cons, gsum_cons]
    by_cases c : a.num = o'.num
    · have ea : o = a := by
        rcases List.mem_cons.mp h with h | h
        · exact h
        · exact absurd (List.mem_map.mpr ⟨o, h, by rw [← e, c]⟩) hn.1
      rw [if_pos c, updO_none fun x hx z => hn.1 (List.mem_map.mpr ⟨x, hx, by rw [z, c]⟩), ea]
      omega
    · rw [if_neg c]
      rcases List.mem_cons.mp h with h | h
      · rw [h] at e
        exact absurd e.symm c
      · rw [gsum_upd hn.2 h e]
        omega
theorem gsum_none {f : Ord → Int} : ∀ {os : List Ord}, (∀ x ∈ os, f x = 0) → gsum f os = 0
  | [], _ => rfl
  | a :: os, h => by
    rw [gsum_cons, h a List.mem_cons_self, gsum_none fun x hx => h x (List.mem_cons_of_mem _ hx)]
    rfl
theorem gsum_drop {f : Ord → Int} : ∀ {os : List Ord} {o : Ord}, (os.map (·.num)).Nodup → o ∈ os → gsum f (dropO os o.num) = gsum f os - f o
  | [], _, _, h => by cases h
  | a :: os, o, hn, h => by
    have e2 : dropO (a :: os) o.num = if a.num ≠ o.num then a :: dropO os o.num else dropO os o.num := by
      unfold dropO
      rw [List.filter_cons]
      simp
    rw [List.map_cons, List.nodup_cons] at hn
    rw [e2, gsum_cons]
    by_cases c : a.num = o.num
    · have ea : o = a := by
        rcases List.mem_cons.mp h with h | h
        · exact h
        · exact absurd (List.mem_map.mpr ⟨o, h, c.symm⟩) hn.1
      have ed : dropO os o.num = os := by
        unfold dropO
        refine List.filter_eq_self.mpr fun x hx => decide_eq_true fun z => hn.1 (List.mem_map.mpr ⟨x, hx, by rw [z, c]⟩)
      rw [if_neg (fun z => z c), ed, ea]
      omega
    · rw [if_pos c, gsum_cons]
      rcases List.mem_cons.mp h with h | h
      · rw [h] at c
        exact absurd rfl c
      · rw [gsum_drop hn.2 h]
        omega
theorem gsum_perm {f : Ord → Int} {l m : List Ord} (h : l.Perm m) : gsum f l = gsum f m := by
  induction h with
  | nil => rfl
  | cons x _ ih => rw [gsum_cons, gsum_cons, ih]
  | swap x y l =>
    rw [gsum_cons, gsum_cons, gsum_cons, gsum_cons]
    omega
  | trans _ _ h1 h2 => exact h1.trans h2
theorem gsum_filter {q : Ord → Bool} {f : Ord → Int} : ∀ l : List Ord, gsum f (l.filter q) = gsum (fun x => if q x = true then f x else 0) l
  | [] => rfl
  | a :: l => by
    rw [List.filter_cons, gsum_cons]
    by_cases c : q a = true
    · rw [if_pos c, if_pos c, gsum_cons, gsum_filter l]
    · rw [if_neg c, if_neg c, gsum_filter l, Int.zero_add]
/-- what one that rests may give to one that comes -/
def give (o x : Ord) : Int := if x.buy = (!o.buy) ∧ o.suits x.pr = true ∧ x.own ≠ o.own then x.rest else 0
theorem there_give (os : List Ord) (o : Ord) : there os o = gsum (give o) os := by
  show gsum (·.rest) ((row os (!o.buy)).filter fun x => o.suits x.pr && decide (x.own ≠ o.own)) = _
  rw [gsum_filter]
  unfold row
  rw [gsum_perm (List.mergeSort_perm _ leO), gsum_filter]
  unfold gsum
  congr 1
  refine List.map_congr_left fun x _ => ?_
  unfold give
  by_cases c1 : x.buy = !o.buy
  · by_cases c2 : o.suits x.pr = true
    · by_cases c3 : x.own = o.own <;> simp [c1, c2, c3]
    · simp [c1, c2]
  · simp [c1]
theorem give_like {o o' x : Ord} (l : Like o' o) : give o' x = give o x := by
  have es : o'.suits x.pr = o.suits x.pr := by
    unfold Ord.suits
    rw [l.price, l.buy]
  unfold give
  rw [l.buy, l.own, es]
theorem give_self {o x : Ord} (h1 : x.buy = !o.buy) (h2 : o.suits x.pr = true) (h3 : x.own ≠ o.own) : give o x = x.rest := if_pos ⟨h1, h2, h3⟩
theorem meet_give {B : Bk} {o one : Ord} (hb : BkOk B) (ho : one ∈ B.ords) (h1 : one.buy = !o.buy) (h2 : o.suits one.pr = true) (h3 : one.own ≠ o.own) : gsum (give o) (afterMeet B o one).ords = gsum (give o) B.ords - cut o one := by
  have g1 := give_self h1 h2 h3
  unfold afterMeet
  dsimp only
  by_cases c0 : one.rest - cut o one = 0
  · rw [if_pos c0]
    show gsum (give o) (dropO B.ords one.num) = _
    rw [gsum_drop hb.ndn ho, g1]
    omega
  · rw [if_neg c0]
    by_cases c1 : one.part - cut o one = 0
    · rw [if_pos c1]
      show gsum (give o) (putO B.ords ({ one with rest := one.rest - cut o one, part := one.part - cut o one, place := B.places + 1 } : Ord).show) = _
      rw [putO_there (o := ({ one with rest := one.rest - cut o one, part := one.part - cut o one, place := B.places + 1 } : Ord).show) ⟨one, ho, rfl⟩, gsum_upd (o' := ({ one with rest := one.rest - cut o one, part := one.part - cut o one, place := B.places + 1 } : Ord).show) (o := one) hb.ndn ho rfl, g1]
      have g2 : give o ({ one with rest := one.rest - cut o one, part := one.part - cut o one, place := B.places + 1 } : Ord).show = one.rest - cut o one := give_self h1 h2 h3
      rw [g2]
      omega
    · rw [if_neg c1]
      show gsum (give o) (updO B.ords { one with rest := one.rest - cut o one, part := one.part - cut o one }) = _
      rw [gsum_upd (o' := { one with rest := one.rest - cut o one, part := one.part - cut o one }) (o := one) hb.ndn ho rfl, g1]
      have g2 : give o ({ one with rest := one.rest - cut o one, part := one.part - cut o one } : Ord) = one.rest - cut o one := give_self h1 h2 h3
      rw [g2]
      omega
/-- where enough rests, all is traded -/
theorem fill_all : ∀ (n : Nat) (s : Bk × Ord), mu1 s ≤ n → BkOk s.1 → s.2.rest ≤ gsum (give s.2) s.1.ords → (matchAll s).2.2.rest ≤ 0 :=
  match_ind (P := fun s => s.2.rest ≤ gsum (give s.2) s.1.ords → (matchAll s).2.2.rest ≤ 0)
    (fun s e s' hb h ih hle => by
      obtain ⟨one, rest, h0, er, hs, hc⟩ := step_cases h
      obtain ⟨ho, hob⟩ := row_mem.mp (show one ∈ row s.1.ords (!s.2.buy) by rw [er]; exact List.mem_cons_self)
      rw [match_step hb h]
      refine ih ?_
      rcases hc with ⟨h3, _, e2⟩ | ⟨h3, _, e2⟩
      · have a1 : s'.2 = s.2 := by rw [e2]
        have a2 : s'.1.ords = dropO s.1.ords one.num := by rw [e2]
        have g : give s.2 one = 0 := if_neg fun z => z.2.2 h3
        rw [a1, a2, gsum_drop hb.ndn ho, g]
        omega
      · have a1 : s'.2 = afterMeetO s.2 one := by rw [e2]
        have a2 : s'.1.ords = (afterMeet s.1 s.2 one).ords := by rw [e2]
        have a3 : gsum (give s'.2) s'.1.ords = gsum (give s.2) s'.1.ords := by
          unfold gsum
          congr 1
          refine List.map_congr_left fun x _ => ?_
          rw [a1]
          exact give_like ⟨rfl, rfl, rfl, rfl, rfl, rfl⟩
        rw [a3, a2, meet_give hb ho hob hs h3, a1]
        show s.2.rest - cut s.2 one ≤ _
        omega)
    (fun s hb h hle => by
      rw [match_none h]
      show s.2.rest ≤ 0
      by_cases h0 : 0 < s.2.rest
      · have st := stop_suits h h0
        rw [gsum_none fun x hx => ?_] at hle
        · exact hle
        · refine if_neg fun z => ?_
          rw [st x hx z.1] at z
          exact absurd z.2.1 (by decide)
      · omega)
/-! ### an order that comes outside of a call -/
structure GoodP (B : Bk) (o : Ord) (w : Way) (es : List Ev) (B' : Bk) : Prop where
  best : ∃ lo xs, Best B.ords (!o.buy) lo es xs
  first : ∀ e es', es = e :: es' → ∃ one r, row B.ords (!o.buy) = one :: r ∧ evNum e = one.num
  whole : w = .whole → (volE es = 0 ∧ es = [] ∧ B'.ords = B.ords) ∨ volE es = o.rest
  left : volE es ≠ o.rest → (w = .whole → volE es ≠ 0) → ∀ x ∈ B'.ords, x.buy = (!o.buy) → o.suits x.pr = false
theorem good_plain {B : Bk} (h : BkOk B) (hc : B.calling = false) {ad : Nat} {owner : Int} {b : Bool} {p : Option Int} {m : Int} {s : Option Int} {w : Way} (g : Parts p m s w) :
    GoodP B (newOrd B ad owner b p m s) w (placeB B (newOrd B ad owner b p m s) w).1 (placeB B (newOrd B ad owner b p m s) w).2 := by
  obtain ⟨r, hr, e⟩ := place_cases B (newOrd B ad owner b p m s) w
  rw [e]
  rcases hr with ⟨q, _, hw⟩ | ⟨q, hw⟩
  · have hb1 := many_ok h
    have M := match_ok (s := (B.next, newOrd B ad owner b p m s)) hb1
    have V := vol_ok _ (B.next, newOrd B ad owner b p m s) (Nat.le_refl _) hb1
    rw [← q] at M V
    have V : r.2.2.rest = m - volE r.1 := V
    have h0 : 0 ≤ r.2.2.rest := M.rest0 (by have := g.m1; show 0 ≤ m; omega)
    obtain ⟨lo, hlo⟩ : ∃ lo : Int, ∀ x ∈ B.ords, x.buy = (!b) → lo ≤ x.k1 := by
      cases er : row B.ords (!b) with
      | nil =>
        refine ⟨0, fun x hx hb => ?_⟩
        have := row_mem.mpr ⟨hx, hb⟩
        rw [er] at this
        cases this
      | cons a l =>
        refine ⟨a.k1, fun x hx hb => ?_⟩
        have mx := row_mem.mpr ⟨hx, hb⟩
        have srt := row_sorted B.ords (!b)
        rw [er] at mx srt
        exact head_k1 srt x mx
    obtain ⟨xs, hbest⟩ := best_ok _ (B.next, newOrd B ad owner b p m s) (Nat.le_refl _) hb1 B.ords lo (Within.refl _) hlo
    rw [← q] at hbest
    refine ⟨⟨lo, xs, hbest⟩, fun e es' he => ?_, fun hwh => .inr ?_, fun hv _ x hx hxb => ?_⟩
    · have he : r.1 = e :: es' := he
      rw [q] at he
      exact first_ok (s := (B.next, newOrd B ad owner b p m s)) hb1 he
    · have hf : canFill B.ords (newOrd B ad owner b p m s) = true := by
        rcases hw with hw | hw
        · exact absurd hwh hw
        · exact hw
      unfold canFill at hf
      have hf := of_decide_eq_true hf
      rw [there_give] at hf
      have F := fill_all _ (B.next, newOrd B ad owner b p m s) (Nat.le_refl _) hb1 hf
      rw [← q] at F
      show volE r.1 = m
      omega
    · have hv : volE r.1 ≠ m := hv
      have pos : 0 < r.2.2.rest := by omega
      have st := stop_suits M.stop pos
      have l := M.like
      have es : ∀ y, (newOrd B ad owner b p m s).suits y = r.2.2.suits y := fun y => by
        unfold Ord.suits
        rw [l.price, l.buy]
      rw [es]
      have lb : r.2.2.buy = b := l.buy
      have hxb : x.buy = !b := hxb
      have hx : x ∈ (if w = .rest ∧ 0 < r.2.2.rest then r.2.1.put r.2.2 else r.2.1 : Bk).ords := hx
      by_cases c : w = .rest ∧ 0 < r.2.2.rest
      · rw [if_pos c] at hx
        have hx : x ∈ putO r.2.1.ords ({ r.2.2 with place := r.2.1.places + 1 } : Ord).show := hx
        rcases mem_putO hx with e | ⟨hx, _⟩
        · rw [e] at hxb
          have hxb : r.2.2.buy = !b := hxb
          rw [lb] at hxb
          cases b <;> cases hxb
        · exact st x hx (by rw [lb]; exact hxb)
      · rw [if_neg c] at hx
        exact st x hx (by rw [lb]; exact hxb)
  · have hw : w = .whole ∧ canFill B.ords (newOrd B ad owner b p m s) = false := by
      rcases hw with z | z
      · rw [hc] at z
        cases z
      · exact z
    have e1 : r.1 = [] := by rw [q]
    have e2 : (if w = .rest ∧ 0 < r.2.2.rest then r.2.1.put r.2.2 else r.2.1 : Bk).ords = B.ords := by
      rw [if_neg (fun z => by rw [hw.1] at z; exact absurd z.1 (by decide)), q]
    refine ⟨⟨0, [], ?_⟩, fun e es' he => ?_, fun _ => .inl ⟨?_, e1, e2⟩, fun _ hv => ?_⟩
    · show Best B.ords _ 0 r.1 []
      rw [e1]
      exact .nil 0
    · have he : r.1 = e :: es' := he
      rw [e1] at he
      cases he
    · show volE r.1 = 0
      rw [e1]
      rfl
    · have hv : volE r.1 ≠ 0 := hv hw.1
      rw [e1] at hv
      exact absurd rfl hv
/-! ### sorted prices -/
theorem sorted_ints_eq {l m : List Int} (h : l.Perm m) (hl : l.Pairwise (· ≤ ·)) (hm : m.Pairwise (· ≤ ·)) : l = m :=
  List.Perm.eq_of_pairwise (le := (· ≤ ·)) (fun a b _ _ h1 h2 => Int.le_antisymm h1 h2) hl hm h
theorem sorted_down_eq {l m : List Int} (h : l.Perm m) (hl : l.Pairwise (· ≥ ·)) (hm : m.Pairwise (· ≥ ·)) : l = m :=
  List.Perm.eq_of_pairwise (le := (· ≥ ·)) (fun a b _ _ h1 h2 => Int.le_antisymm h2 h1) hl hm h
theorem best_up {os0 : List Ord} {lo : Int} {es : List Ev} {xs : List Ord} (hn : (os0.map (·.num)).Nodup) (h : Best os0 false lo es xs) : (es.map (evPr os0)).Pairwise (· ≤ ·) := by
  rw [h.prices hn, List.pairwise_map]
  have s := h.side_
  refine (List.Pairwise.and_mem.mp h.sorted).imp fun {a b} k => ?_
  have := k.2.2
  rw [k1_sell (s a k.1), k1_sell (s b k.2.1)] at this
  exact this
theorem best_down {os0 : List Ord} {lo : Int} {es : List Ev} {xs : List Ord} (hn : (os0.map (·.num)).Nodup) (h : Best os0 true lo es xs) : (es.map (evPr os0)).Pairwise (· ≥ ·) := by
  rw [h.prices hn, List.pairwise_map]
  have s := h.side_
  refine (List.Pairwise.and_mem.mp h.sorted).imp fun {a b} k => ?_
  have := k.2.2
  rw [k1_buy (s a k.1), k1_buy (s b k.2.1)] at this
  show b.pr ≤ a.pr
  omega
/-! ### the walks -/
structure SideAt (H : Hp) (os : List Ord) (sd : Bool) (t r q : Addr) (ys : List V) : Prop where
  tup : H t = some (.tup [.str (sideStr sd), .ref r, .ref q])
  rest : H r = some (.lst ((resting os sd).map V.int))
  deep : H q = some (.lst ys)
  prs : Paired (PrAt H) (depth os sd) ys
theorem SideAt.keep {H H' : Hp} {os : List Ord} {sd : Bool} {t r q : Addr} {ys : List V} (h : SideAt H os sd t r q ys) (k : SeqKeep H H') : SideAt H' os sd t r q ys := ⟨k.1 _ _ h.tup, k.2 _ _ h.rest, k.2 _ _ h.deep, prs_keep h.prs k.1⟩
def ShownAt (H : Hp) (os : List Ord) (p : Addr) : Prop := ∃ t1 r1 q1 ys1 t2 r2 q2 ys2, H p = some (.lst [.ref t1, .ref t2]) ∧ SideAt H os true t1 r1 q1 ys1 ∧ SideAt H os false t2 r2 q2 ys2
theorem ShownAt.keep {H H' : Hp} {os : List Ord} {p : Addr} (h : ShownAt H os p) (k : SeqKeep H H') : ShownAt H' os p :=
  let ⟨t1, r1, q1, ys1, t2, r2, q2, ys2, e, a, b⟩ := h
  ⟨t1, r1, q1, ys1, t2, r2, q2, ys2, k.2 _ _ e, a.keep k, b.keep k⟩
def prD (z : Int × Int) : PyData := .tuple [.int z.1, .int z.2]
def sideD (os : List Ord) (sd : Bool) : PyData := .tuple [.str (sideStr sd), .list ((resting os sd).map PyData.int), .list ((depth os sd).map prD)]
def shownD (os : List Ord) : PyData := .list [sideD os true, sideD os false]
theorem side_dp {K : PySem.W.Frag} {H : Hp} {os : List Ord} {sd : Bool} {t r q : Addr} {ys : List V} (h : SideAt H os sd t r q ys) : Dp K H (.ref t) (sideD os sd) :=
  .tup (.inl (.inl h.tup)) (.cons (.str _) (.cons (dp_ints h.rest) (.cons (.lst (.inl (.inl h.deep)) (dpAll_of (F := PrAt H) (g := prD) (fun z y ⟨t, e, ht⟩ => by rw [e]; exact .tup (.inl (.inl ht)) (.cons (.int _) (.cons (.int _) .nil))) h.prs)) .nil)))
theorem shown_dp {K : PySem.W.Frag} {H : Hp} {os : List Ord} {p : Addr} (h : ShownAt H os p) : Dp K H (.ref p) (shownD os) := by
  obtain ⟨t1, r1, q1, ys1, t2, r2, q2, ys2, e, a, b⟩ := h
  exact .lst (.inl (.inl e)) (.cons (side_dp a) (.cons (side_dp b) .nil))
theorem sideD_ok (os : List Ord) (sd : Bool) : PyData.canLay0 (sideD os sd) = true ∧ PyData.depth (sideD os sd) ≤ 3 := by
  have h1 := list_shaped (l := (resting os sd).map PyData.int) fun x hx => by
    obtain ⟨i, _, q⟩ := List.mem_map.mp hx
    rw [← q]
    exact ⟨rfl, Nat.zero_le _⟩
  have h2 := list_shaped (l := (depth os sd).map prD) fun x hx => by
    obtain ⟨z, _, q⟩ := List.mem_map.mp hx
    rw [← q]
    exact ⟨rfl, Nat.le_refl 1⟩
  have h3 : PyData.strOk (sideStr sd) = true := by cases sd <;> decide +kernel
  refine ⟨?_, ?_⟩
  · show (PyData.strOk (sideStr sd) && (PyData.canLay0 (.list ((resting os sd).map PyData.int)) && (PyData.canLay0 (.list ((depth os sd).map prD)) && true))) = true
    rw [h1.1, h2.1, h3]
    rfl
  · show max 0 (max (PyData.depth (.list ((resting os sd).map PyData.int))) (max (PyData.depth (.list ((depth os sd).map prD))) 0)) + 1 ≤ 3
    have := h1.2
    have := h2.2
    omega
theorem shown_shaped (os : List Ord) : SeqAt.shaped (shownD os) = true := by
  have h1 := sideD_ok os true
  have h2 := sideD_ok os false
  unfold SeqAt.shaped
  refine Bool.and_eq_true_iff.mpr ⟨?_, decide_eq_true ?_⟩
  · show (PyData.canLay0 (sideD os true) && (PyData.canLay0 (sideD os false) && true)) = true
    rw [h1.1, h2.1]
    rfl
  · show max (PyData.depth (sideD os true)) (max (PyData.depth (sideD os false)) 0) + 1 ≤ 64
    have := h1.2
    have := h2.2
    omega
section
variable {α : Type} {g : TG} {tt : TT} {te : TE} {vs : List Nat} {σ : L2.St} {H1 : Hp} {D : Addr} {Qd : Hp → Prop} {zs : List α} {enc : α → V} {p : α → Bool} {R : α → V → Hp → Prop}
/-- as lc_relT, where a turn knows that the list stands -/
theorem lc_relTD {K : PySem.W.Frag} {a : Addr} (hl : SqT K H1 a (zs.map enc)) (hz : zs.length ≤ sizeLine) (hn : H1 D = none) (hR : ∀ z y H H' xs, H D = some (.lst xs) → SameBut D H H' → R z y H → R z y H')
    (hs : ∀ z ∈ zs, ∀ H, L2.Same H1 H → (∃ xs, H D = some (.lst xs)) → ∀ (Qy : VK) (Qn : Hp → Prop), (p z = true → ∀ y H', L2.Same H H' → R z y H' → Qy y H') → (p z = false → ∀ H', L2.Same H H' → Qn H') →
      g (enc z) (wipe σ vs) H fun σ2 H2 => wipe σ2 vs = wipe σ vs ∧ tt σ2 H2 fun b H3 => if b = true then te σ2 H3 Qy else Qn H3)
    (hd : ∀ H ys, L2.Same H1 H → H D = some (.lst ys) → Paired (fun z y => R z y H) (zs.filter p) ys → Qd H) :
    ∃ W : Nat → Nat → Hp → Prop, (∃ m, W 0 m (upd H1 D (.lst []))) ∧ ∀ i m H, W i m H →
      ((Itt K a).stop i H ∧ Qd H) ∨ ((Itt K a).go i H ∧ ∃ Nx : Hp → Prop, (∀ H', Nx H' → ∃ m', m' < m ∧ W (i + 1) m' H') ∧ ∀ x H', (Itt K a).yld i H x H' → g x (wipe σ vs) H' fun σ2 H2 => wipe σ2 vs = wipe σ vs ∧ tt σ2 H2 fun b H3 =>
        if b = true then te σ2 H3 fun y H4 => ∃ acc, H4 D = some (.lst acc) ∧ acc.length < sizeLine ∧ Nx (upd H4 D (.lst (acc ++ [y]))) else Nx H3) := by
  let Pv : Nat → Hp → Prop := fun i H => L2.Same H1 H ∧ ∃ ys, H D = some (.lst ys) ∧ ys.length ≤ i ∧ Paired (fun z y => R z y H) ((zs.take i).filter p) ys
  refine ⟨fun i m H => m = zs.length - i ∧ i ≤ zs.length ∧ Pv i H, ⟨zs.length, by simp, Nat.zero_le _, same_new hn, [], upd_same, Nat.le_refl _, .nil⟩, ?_⟩
  rintro i m H ⟨rfl, hi, sm, ys, hD, hl', hP⟩
  by_cases hlt : i < zs.length
  · refine .inr ⟨⟨_, enc zs[i], same_seqT sm hl, by rw [List.getElem?_map, List.getElem?_eq_getElem hlt]; rfl⟩, Pv (i + 1), fun H' p' => ⟨zs.length - (i + 1), by omega, rfl, hlt, p'⟩, fun x H' y => ?_⟩
    have e1 := y.1
    have e := y.2 _ (same_seqT sm hl)
    rw [List.getElem?_map, List.getElem?_eq_getElem hlt] at e
    have ex : x = enc zs[i] := (Option.some.inj e).symm
    subst e1 ex
    have hzi : zs[i]? = some zs[i] := List.getElem?_eq_getElem hlt
    have mz : zs[i] ∈ zs := List.getElem_mem hlt
    have tk : zs.take (i + 1) = zs.take i ++ [zs[i]] := by
      rw [List.take_add_one, hzi]
      rfl
    refine hs zs[i] mz _ sm ⟨ys, hD⟩ _ _ (fun pz y H4 s4 r4 => ⟨ys, s4 _ _ hD, by omega, ?_, ys ++ [y], upd_same, by simp; omega, ?_⟩) (fun pz H3 s3 => ?_)
    · intro b u e
      have hb : b ≠ D := ne_of_none e hn
      rw [upd_ne hb]
      exact s4 b u (sm b u e)
    · rw [tk, List.filter_append, List.filter_cons, pz]
      exact paired_snoc (paired_map (fun z y r => hR z y _ _ ys hD (fun b u hb e => by rw [upd_ne hb]; exact s4 b u e) r) hP) (hR zs[i] y H4 _ ys (s4 _ _ hD) (fun b u hb e => by rw [upd_ne hb]; exact e) r4)
    · refine ⟨fun b u e => s3 b u (sm b u e), ys, s3 _ _ hD, by omega, ?_⟩
      rw [tk, List.filter_append, List.filter_cons, pz]
      simp only [Bool.false_eq_true, if_false, List.filter_nil, List.append_nil]
      exact paired_map (fun z y r => hR z y _ _ ys hD (fun b u _ e => s3 b u e) r) hP
  · have e : i = zs.length := by omega
    subst e
    refine .inl ⟨⟨_, same_seqT sm hl, by rw [List.length_map]; exact Nat.le_refl _⟩, hd H ys sm hD ?_⟩
    rw [List.take_length] at hP
    exact hP
end
section
variable {P : Program} {w : World} {K : PySem.W.Frag} {mg : Str → Option Value} {base : Heap}
def spLShown (K : PySem.W.Frag) : Sp := fun vs H Q _ => ∃ (b d : Addr) (B : Bk), vs = [.ref b] ∧ BookAt K H b d B ∧ Priced B.ords ∧ B.ords.length ≤ 1000 ∧ ∀ H' p, L2.Same H H' → ShownAt H' B.ords p → Q (.ref p) H'
theorem scLShown : FnScope ["_law_book", "_law_side"] ["_law_book"] (defScope s_l_shown) := ⟨rfl, rfl, rfl, by decide +kernel, rfl, by decide +kernel, by decide +kernel⟩
theorem w_l_shown (T : Tx K mg) : Fn P w K mg base CX0 4 "_law_shown" ["_law_book"] (spLShown K) := by
  refine ⟨ok0 T.f_l_shown scLShown (fun _ _ _ _ _ _ us hl => match us, hl with | [_], _ => rfl) (fun vs H Q E h => ?_) (fun cdv A outer s H vs Q E hr h => ?_), T.g_l_shown, ?_⟩
  · obtain ⟨b, d, B, rfl, _⟩ := h
    rfl
  · obtain ⟨b, d, B, rfl, hB, hpr, hlen, k⟩ := h
    have GR : Mt P w K mg base CX0 3 "Book" "resting" ["self", "side"] (spResting K) := w_resting T
    have GD : Mt P w K mg base CX0 3 "Book" "depth" ["self", "side"] (spDepth K) := w_depth T
    refine ⟨_, pss_one (ps_ret (pe_lc (own := [("_law_side", 1)]) (g := gName 1) (tt := tYes) (te := tTup (tCons (tVar 1) (tCons (tMeth (CB K) "resting" (spResting K) [] E0 (tVar 0) (tCons (tVar 1) tNil)) (tCons (tMeth (CB K) "depth" (spDepth K) [] E0 (tVar 0) (tCons (tVar 1) tNil)) tNil)))) rfl scLShown.nd
      (pi_tup (pe_tup (pa_cons pe_str (pa_cons pe_str pa_nil)))) (blkOk_by (N := ["_law_book", "_law_side"]) (sc := defScope s_l_shown) (by decide +kernel)) (fun _ _ _ _ _ => pg_name (i := 1) scLShown.nd rfl (Or.inl rfl)) (fun _ _ _ _ _ => pts_nil)
      (fun _ _ _ _ _ => pe_tup (pa_cons (pv 1) (pa_cons (pe_mt (pv 0) GR hr pass0 (pa_cons (pv 1) pa_nil)) (pa_cons (pe_mt (pv 0) GD hr pass0 (pa_cons (pv 1) pa_nil)) pa_nil)))))), ?_⟩
    refine ⟨by show 2 ≤ sizeLine; decide, fun q hq => ⟨q, rfl, ⟨_, SqT.of upd_same⟩, fun D hD => ?_⟩⟩
    have s0 := same_new (o := .tup [V.str "buy", V.str "sell"]) hq
    refine lc_relTD (K := K) (a := q) (zs := [true, false]) (enc := fun b => V.str (sideStr b)) (p := fun _ => true) (R := fun z y H => ∃ t r q ys, y = .ref t ∧ r ≠ D ∧ q ≠ D ∧ SideAt H B.ords z t r q ys) (SqT.of upd_same) (by show 2 ≤ sizeLine; decide) hD ?_ ?_ ?_
    · rintro z y H1 H2 xs hx sb ⟨t, r, q, ys, e, n1, n2, h⟩
      have nt : ∀ {a l}, H1 a = some (.tup l) → a ≠ D := fun e => ne_of e hx (by intro z; cases z)
      exact ⟨t, r, q, ys, e, n1, n2, sb _ _ (nt h.tup) h.tup, sb _ _ n1 h.rest, sb _ _ n2 h.deep, prs_keep h.prs fun a l e => sb _ _ (nt e) e⟩
    · rintro z _ H1 s1 ⟨xs, hDx⟩ Qy Qn qy qn
      have hB1 := (hB.same s0).same s1
      refine ⟨rfl, iteT (B := Qn H1) ⟨_, rfl, _, rfl, mB hB1 rfl ⟨_, rfl, b, d, B, z, rfl, hB1, hpr, hlen, fun H2 r s2 n2 e2 => ?_⟩⟩⟩
      have hB2 := hB1.same s2
      refine ⟨_, rfl, mB hB2 rfl ⟨_, rfl, b, d, B, z, rfl, hB2, hpr, hlen, fun H3 q3 ys s3 n3 e3 pr => ⟨by show 3 ≤ sizeLine; decide, fun t ht => ?_⟩⟩⟩
      have s4 := same_new (o := .tup [V.str (sideStr z), V.ref r, V.ref q3]) ht
      exact qy rfl _ _ ((s2.trans s3).trans s4) ⟨t, r, q3, ys, rfl, (ne_of_none hDx n2).symm, (ne_of_none (s2 _ _ hDx) n3).symm, upd_same, s4 _ _ (s3 _ _ e2), s4 _ _ e3, prs_keep pr (TupKeep.of s4)⟩
    · intro H1 ys s1 hDy hP
      have hP : Paired _ [true, false] ys := hP
      cases hP with
      | cons a t =>
        cases t with
        | cons b t =>
          cases t
          obtain ⟨t1, r1, q1, ys1, rfl, _, _, h1⟩ := a
          obtain ⟨t2, r2, q2, ys2, rfl, _, _, h2⟩ := b
          exact k H1 D (s0.trans s1) ⟨t1, r1, q1, ys1, t2, r2, q2, ys2, hDy, h1, h2⟩
  · obtain ⟨fd, F⟩ := T.f_l_shown
    exact F.kp
def suitsP (b : Bool) (p : Option Int) (q : Int) : Bool := match p with
  | none => true
  | some l => if b then decide (q ≤ l) else decide (l ≤ q)
def spLSuits (K : PySem.W.Frag) : Sp := fun vs H Q _ => ∃ (b : Bool) (p : Option Int) (q : Int), vs = [.str (sideStr b), optV p, .int q] ∧ Q (.bl (suitsP b p q)) H
theorem scLSuits : FnScope ["_law_side", "_law_limit", "_law_price_here"] ["_law_side", "_law_limit", "_law_price_here"] (defScope s_l_suits) := ⟨rfl, rfl, rfl, by decide +kernel, rfl, by decide +kernel, by decide +kernel⟩
theorem w_l_suits (T : Tx K mg) : Fn P w K mg base CX0 1 "_law_suits" ["_law_side", "_law_limit", "_law_price_here"] (spLSuits K) := by
  refine ⟨ok0 T.f_l_suits scLSuits (fun _ _ _ _ _ _ us hl => match us, hl with | [_, _, _], _ => rfl) (fun vs H Q E h => ?_) (fun cdv A outer s H vs Q E hr h => ?_), T.g_l_suits, ?_⟩
  · obtain ⟨b, p, q, rfl, _⟩ := h
    rfl
  · obtain ⟨b, p, q, rfl, k⟩ := h
    refine ⟨_, pss_one (ps_ret (pe_or (pe_cmp (pc_isN (pv 1)) rfl) (pe_one (pe_ifExp (pt_cmpR op_eq (pv 0) pe_str (nomark _)) (pe_cmpR op_le (pv 2) (pv 1) (nomark _)) (pe_cmpR op_ge (pv 2) (pv 1) (nomark _)))))), ?_⟩
    cases p with
    | none => exact ⟨_, rfl, _, rfl, ifY rfl k⟩
    | some l =>
      refine ⟨_, rfl, _, rfl, ifN (fun z => nomatch z) ⟨_, rfl, rfl, _, rfl, ?_⟩⟩
      rw [side_buy]
      cases b with
      | true => exact iteT ⟨_, rfl, _, rfl, _, _, rfl, rfl, k⟩
      | false => exact iteF ⟨_, rfl, _, rfl, _, _, rfl, rfl, k⟩
  · obtain ⟨fd, F⟩ := T.f_l_suits
    exact F.kp
theorem ev_one (e : Ev) : atI (evV e) 1 = some (.int (evNum e)) := by cases e <;> rfl
def evM : Ev → Int
  | .trade _ _ m => m
  | .out _ => 0
def isTr : Ev → Bool
  | .trade _ _ _ => true
  | .out _ => false
theorem vol_sum : ∀ es : List Ev, ((es.filter isTr).map evM).sum = volE es
  | [] => rfl
  | .trade n p m :: es => by
    show (m :: ((es.filter isTr).map evM)).sum = m + volE es
    rw [List.sum_cons, vol_sum es]
  | .out n :: es => vol_sum es
theorem suits_new {B : Bk} {ad : Nat} {owner : Int} {b : Bool} {p : Option Int} {m : Int} {s : Option Int} (q : Int) : (newOrd B ad owner b p m s).suits q = suitsP b p q := by cases p <;> rfl
def spGood (K : PySem.W.Frag) : Sp := fun vs H Q _ => ∃ (b d rd td ft bf re : Addr) (B0 B' : Bk) (rs : List Rec) (own : Int) (by_ : Bool) (p : Option Int) (m : Int) (s : Option Int) (y : Way) (ad : Nat) (n : Int) (es : List Ev) (ys : List V), vs = [.ref b, .ref rd, .ref td, .ref ft, .ref bf] ∧
  BookAt K H b d B' ∧ BkOk B' ∧ B'.ords.length ≤ 1000 ∧ RecAt H rd rs ∧ Known B' rs ∧ H td = some (.tup [.str "place", .int own, .str (sideStr by_), optV p, .int m, optV s, .str y.str]) ∧ H ft = some (.tup [.int n, .ref re]) ∧ H re = some (.lst ys) ∧ Paired (EvAt H) es ys ∧
  ShownAt H B0.ords bf ∧ BkOk B0 ∧ B0.ords.length ≤ 1000 ∧ es.length ≤ 10900 ∧ 1 ≤ m ∧ GoodP B0 (newOrd B0 ad own by_ p m s) y es B' ∧ (∀ o ∈ B0.ords, ∃ r ∈ rs, r.n = o.num ∧ r.price = o.price) ∧ ∀ H', L2.Same H H' → Q (.bl true) H'
abbrev goodN : List Str := ["_law_book", "_law_record", "_law_deed_here", "_law_found", "_law_before", "_law_events", "_law_other", "_law_rested", "_law_prices", "_law_due", "_law_many", "_law_left", "_law_event", "_law_number", "_law_price_here"]
theorem scGood : FnScope goodN ["_law_book", "_law_record", "_law_deed_here", "_law_found", "_law_before"] (defScope s_l_good) := ⟨rfl, rfl, rfl, by decide +kernel, rfl, by decide +kernel, by decide +kernel⟩
abbrev rLenS (K : PySem.W.Frag) : List V → Hp → VK → Prop := fun xs H Q => ∃ p ys, xs = [.ref p] ∧ (SqL K H p ys ∨ SqT K H p ys) ∧ Q (.int (ys.length : Nat)) H
abbrev teRec (K : PySem.W.Frag) : TE := tDGet (tDGet (tVar 1) (tOp (rIx K) (tVar 12) (tC (.int 1)))) (tC (.str "price"))
abbrev teAll (K : PySem.W.Frag) : TE := tAndV (tOp (rIn K false) (tOp (rIx K) (tVar 12) (tC (.int 1))) (tVar 7)) (tOrV (tOp rEq (tCB (rLenS K) (tCons (tVar 12) tNil)) (tC (.int 2))) (tOp rEq (tOp (rIx K) (tVar 12) (tC (.int 2))) (teRec K)))
abbrev teSu (K : PySem.W.Frag) : TE := tCall (spLSuits K) [] E0 (tCons (tOp (rIx K) (tVar 2) (tC (.int 2))) (tCons (tOp (rIx K) (tVar 2) (tC (.int 3))) (tCons (tVar 14) tNil)))
theorem w_l_good (T : Tx K mg) : Fn P w K mg base CX0 5 "_law_good" ["_law_book", "_law_record", "_law_deed_here", "_law_found", "_law_before"] (spGood K) := by
  refine ⟨ok0 T.f_l_good scGood (fun _ _ _ _ _ _ us hl => match us, hl with | [_, _, _, _, _], _ => rfl) (fun vs H Q E h => ?_) (fun cdv A outer s H vs Q E hr h => ?_), T.g_l_good, ?_⟩
  · obtain ⟨b, d, rd, td, ft, bf, re, B0, B', rs, own, by_, p, m, sv, y, ad, n, es, ys, rfl, _⟩ := h
    rfl
  · obtain ⟨b, d, rd, td, ft, bf, re, B0, B', rs, own, by_, p, m, sv, y, ad, n, es, ys, rfl, hB, hok, hlen, hR, hK, htd, hft, hre, pe, hsh, hok0, hlen0, hes, hm1, hG, hrec, k⟩ := h
    have hu := hu_of hr
    have hu64 : A.units + 3 + 64 < cLine := by
      have := hr.un
      have e : (A.deeper (envOfC "_law_good" (defScope s_l_good) s.heap.objs.size (He.ga K "_law_good") cdv)).units = A.units + 3 := rfl
      omega
    have GR : Mt P w K mg base CX0 3 "Book" "resting" ["self", "side"] (spResting K) := w_resting T
    have GS : Fn P w K mg base CX0 4 "_law_shown" ["_law_book"] (spLShown K) := w_l_shown T
    have GU : Fn P w K mg base CX0 1 "_law_suits" ["_law_side", "_law_limit", "_law_price_here"] (spLSuits K) := w_l_suits T
    have hr1 := hr.mono (j := 1) (by decide)
    have hr3 := hr.mono (j := 3) (by decide)
    have hpr := priced_of hok
    refine ⟨_, pss_cons (ps_set (i := 5) scGood.nd rfl (Or.inl rfl) (pe_ix (r := rIx K) ix_seq (pv 3) pe_int (fun _ _ => rfl)))
      (pss_cons (ps_set (i := 6) scGood.nd rfl (Or.inl rfl) (pe_callTy call_int1 rfl T.z_int (by decide +kernel) (pa_cons (pe_cmpR op_eq (pe_ix (r := rIx K) ix_seq (pv 2) pe_int (fun _ _ => rfl)) pe_str (nomark _)) pa_nil)))
      (pss_cons (ps_set (i := 7) scGood.nd rfl (Or.inr rfl) (pe_ix (r := rIx K) ix_seq (pe_ix (r := rIx K) ix_seq (pv 4) (pv 6) (fun _ _ => rfl)) pe_int (fun _ _ => rfl)))
      (pss_cons (ps_mid (ps_if (PW.pt (pw_and (pt_truth (pv 5) (by intro _; rfl)) (pw_and1 (PW.pt (pw_or (pt_not (pt_truth (pv 7) (by intro _; rfl))) (pw_or1 (pt_cmpR op_ne (pe_ix (r := rIx K) ix_seq (pe_ix (r := rIx K) ix_seq (pv 5) pe_int (fun _ _ => rfl)) pe_int (fun _ _ => rfl)) (pe_ix (r := rIx K) ix_seq (pv 7) pe_int (fun _ _ => rfl)) (nomark _)))))))) (pss_one (ps_ret pe_bl)) pss_nil))
      (pss_cons (ps_setLc (i := 8) (own := [("_law_event", 12)]) (g := gName 12) (tt := tYes) (te := teRec K) rfl scGood.nd rfl rfl (sw_true rfl rfl rfl (by decide +kernel)) (pi_list (pv 5))
          (blkOk_by (N := goodN) (sc := defScope s_l_good) (by decide +kernel)) (fun _ _ _ _ _ => pg_name (i := 12) scGood.nd rfl (Or.inl rfl)) (fun _ _ _ _ _ => pts_nil) (fun _ _ _ _ _ => pe_dget hu (pe_dget hu (pv 1) (pe_ix (r := rIx K) ix_seq (pv 12) pe_int (fun _ _ => rfl)) (fun _ _ => rfl)) pe_str (fun _ _ => rfl)))
      (pss_cons (ps_mid (ps_set (i := 9) scGood.nd rfl (Or.inl rfl) (pe_ifExp (pt_cmpR op_eq (pe_ix (r := rIx K) ix_seq (pv 2) pe_int (fun _ _ => rfl)) pe_str (nomark _))
          (pe_callBK (cr_sortedRev (b := true)) rfl T.z_sorted boot_sorted (pa_cons (pv 8) pa_nil) (pk_cons pe_bl pk_nil)) (pe_callB cr_sortedI rfl T.z_sorted boot_sorted (pa_cons (pv 8) pa_nil)))))
      (pss_cons (ps_if (pt_cmpR (op_neD hu64) (pv 8) (pv 9) (nomark _)) (pss_one (ps_ret pe_bl)) pss_nil)
      (pss_cons (ps_if (pt_not (pt_val (pe_callB (cr_all rfl) rfl T.z_all boot_all (pa_cons (pe_lc (own := [("_law_event", 12)]) (g := gName 12) (tt := tYes) (te := teAll K) rfl scGood.nd (pi_list (pv 5))
          (blkOk_by (N := goodN) (sc := defScope s_l_good) (by decide +kernel)) (fun _ _ _ _ _ => pg_name (i := 12) scGood.nd rfl (Or.inl rfl)) (fun _ _ _ _ _ => pts_nil)
          (fun _ _ _ _ _ => pe_and (pe_cmpR op_in_seq (pe_ix (r := rIx K) ix_seq (pv 12) pe_int (fun _ _ => rfl)) (pv 7) (by rfl)) (pe_one (pe_or (pe_cmpR op_eq (pe_callB call_len_seq rfl T.z_len boot_len (pa_cons (pv 12) pa_nil)) pe_int (nomark _))
            (pe_one (pe_cmpR op_eq (pe_ix (r := rIx K) ix_seq (pv 12) pe_int (fun _ _ => rfl)) (pe_dget hu (pe_dget hu (pv 1) (pe_ix (r := rIx K) ix_seq (pv 12) pe_int (fun _ _ => rfl)) (fun _ _ => rfl)) pe_str (fun _ _ => rfl)) (nomark _))))))) pa_nil)))) (pss_one (ps_ret pe_bl)) pss_nil)
      (pss_cons (ps_set (i := 10) scGood.nd rfl (Or.inl rfl) (pe_callB (cr_sum rfl) rfl T.z_sum boot_sum (pa_cons (pe_lc (own := [("_law_event", 12)]) (g := gName 12) (tt := tTest (tOp rEq (tOp (rIx K) (tVar 12) (tC (.int 0))) (tC (.str "trade")))) (te := tOp (rIx K) (tVar 12) (tC (.int 3))) rfl scGood.nd (pi_list (pv 5))
          (blkOk_by (N := goodN) (sc := defScope s_l_good) (by decide +kernel)) (fun _ _ _ _ _ => pg_name (i := 12) scGood.nd rfl (Or.inl rfl)) (fun _ _ _ _ _ => pts_one (pt_cmpR op_eq (pe_ix (r := rIx K) ix_seq (pv 12) pe_int (fun _ _ => rfl)) pe_str (nomark _)))
          (fun _ _ _ _ _ => pe_ix (r := rIx K) ix_seq (pv 12) pe_int (fun _ _ => rfl))) pa_nil)))
      (pss_cons (ps_mid (ps_if (PW.pt (pw_and (pt_cmpR op_eq (pe_ix (r := rIx K) ix_seq (pv 2) pe_int (fun _ _ => rfl)) pe_str (nomark _)) (pw_and1 (pt_cmpR op_notIn_seq (pv 10) (pe_tup (pa_cons pe_int (pa_cons (pe_ix (r := rIx K) ix_seq (pv 2) pe_int (fun _ _ => rfl)) pa_nil))) (by rfl))))) (pss_one (ps_ret pe_bl)) pss_nil))
      (pss_cons (ps_mid (ps_if (PW.pt (pw_and (pt_cmpR op_eq (pe_ix (r := rIx K) ix_seq (pv 2) pe_int (fun _ _ => rfl)) pe_str (nomark _)) (pw_and1 (pt_cmpR op_eq (pv 10) pe_int (nomark _))))) (pss_one (ps_ret (pe_and (pe_cmpR (op_eqD hu64) (pv 5) (pe_lst pa_nil) (nomark _))
          (pe_one (pe_cmpR (op_eqD hu64) (pe_fn GS hr rfl pass0 (pa_cons (pv 0) pa_nil)) (pv 4) (nomark _)))))) pss_nil))
      (pss_cons (ps_if (pt_cmpR op_eq (pv 10) (pe_ix (r := rIx K) ix_seq (pv 2) pe_int (fun _ _ => rfl)) (nomark _)) (pss_one (ps_ret pe_bl)) pss_nil)
      (pss_cons (ps_setLc (i := 11) (own := [("_law_number", 13)]) (g := gName 13) (tt := tYes) (te := tDGet (tDGet (tVar 1) (tVar 13)) (tC (.str "price"))) rfl scGood.nd rfl rfl (sw_true rfl rfl rfl (by decide +kernel)) (pi_list (pe_mt (pv 0) GR hr3 pass0 (pa_cons (pe_ix (r := rIx K) ix_seq (pe_lst (pa_cons pe_str (pa_cons pe_str pa_nil))) (pv 6) (fun _ _ => rfl)) pa_nil)))
          (blkOk_by (N := goodN) (sc := defScope s_l_good) (by decide +kernel)) (fun _ _ _ _ _ => pg_name (i := 13) scGood.nd rfl (Or.inl rfl)) (fun _ _ _ _ _ => pts_nil) (fun _ _ _ _ _ => pe_dget hu (pe_dget hu (pv 1) (pv 13) (fun _ _ => rfl)) pe_str (fun _ _ => rfl)))
      (pss_one (ps_ret (pe_not (pe_callB (cr_any rfl) rfl T.z_any boot_any (pa_cons (pe_lc (own := [("_law_price_here", 14)]) (g := gName 14) (tt := tYes) (te := teSu K) rfl scGood.nd (pi_list (pv 11))
          (blkOk_by (N := goodN) (sc := defScope s_l_good) (by decide +kernel)) (fun _ _ _ _ _ => pg_name (i := 14) scGood.nd rfl (Or.inl rfl)) (fun _ _ _ _ _ => pts_nil)
          (fun _ _ _ _ _ => pe_fn GU hr1 rfl pass0 (pa_cons (pe_ix (r := rIx K) ix_seq (pv 2) pe_int (fun _ _ => rfl)) (pa_cons (pe_ix (r := rIx K) ix_seq (pv 2) pe_int (fun _ _ => rfl)) (pa_cons (pv 14) pa_nil))))) pa_nil))))))))))))))))), ?_⟩
    obtain ⟨lo, xs, hbest⟩ := hG.best
    have hbest : Best B0.ords (!by_) lo es xs := hbest
    obtain ⟨t1, r1, q1, ys1, t2, r2, q2, ys2, hbf, sa1, sa2⟩ := hsh
    obtain ⟨tO, rO, hix, hsO, hrO, hq2⟩ : ∃ tO rO : Addr, atI [V.ref t1, V.ref t2] (if by_ = true then 1 else 0) = some (.ref tO) ∧ (∃ q, H tO = some (.tup [.str (sideStr (!by_)), .ref rO, .ref q])) ∧ H rO = some (.lst ((resting B0.ords (!by_)).map V.int)) ∧ atI [V.str "buy", V.str "sell"] (if by_ = true then 1 else 0) = some (.str (sideStr (!by_))) := by
      cases by_ with
      | true => exact ⟨t2, r2, rfl, ⟨_, sa2.tup⟩, sa2.rest, rfl⟩
      | false => exact ⟨t1, r1, rfl, ⟨_, sa1.tup⟩, sa1.rest, rfl⟩
    obtain ⟨qO, htO⟩ := hsO
    refine dix rfl hft (v := .ref re) rfl ?_
    refine dix rfl htd (v := .str (sideStr by_)) rfl ⟨rfl, .inr ⟨_, rfl, ?_⟩⟩
    rw [side_buy]
    refine lixv rfl rfl hbf hix (.inr (.inl ⟨tO, _, _, .ref rO, rfl, rfl, .inl (.inl htO), rfl, ?_⟩))
    generalize (if by_ = true then (1 : Int) else 0) = ot at hix hq2
    -- the first of all
    refine ⟨fun σ' H' => H' = H ∧ σ' = [some (V.ref b), some (.ref rd), some (.ref td), some (.ref ft), some (.ref bf), some (.ref re), some (.int ot), some (.ref rO), none, none, none, none, none, none, none], ?_, ?_⟩
    · refine ⟨_, rfl, !ys.isEmpty, .inl ⟨ys, .inl (.inl hre), rfl⟩, ?_⟩
      cases hes2 : es with
      | nil =>
        rw [hes2] at pe
        cases pe
        exact iteF (iteF ⟨rfl, rfl⟩)
      | cons e es' =>
        obtain ⟨one, r, er, en⟩ := hG.first e es' hes2
        have er : row B0.ords (!by_) = one :: r := er
        rw [hes2] at pe
        cases pe with
        | cons a t =>
          obtain ⟨te, rfl, hte⟩ := a
          have hr0 : H rO = some (.lst (.int one.num :: r.map fun o => V.int o.num)) := by
            rw [hrO]
            unfold resting
            rw [er, List.map_map]
            rfl
          refine iteT ⟨_, rfl, true, .inl ⟨_, .inl (.inl hr0), rfl⟩, iteF ?_⟩
          refine lix rfl hre (atI_nat (j := 0) rfl) (.inr (.inl ⟨te, _, _, .int (evNum e), rfl, rfl, .inl (.inl hte), ev_one e, lix rfl hr0 (atI_nat (j := 0) rfl) ⟨rfl, _, rfl, iteNS (by rw [en]) ⟨rfl, rfl⟩⟩⟩))
    rintro σ' H' ⟨rfl, rfl⟩
    have hz : (es.zip ys).map Prod.snd = ys := zip_snd (paired_len pe)
    have hzl : (es.zip ys).length ≤ sizeLine := by
      rw [List.length_zip]
      have h3 : (10900 : Nat) ≤ sizeLine := by decide
      omega
    -- whose price each event tells
    have evr : ∀ e ∈ es, ∃ r ∈ rs, r.n = evNum e ∧ r.price = some (evPr B0.ords e) ∧ (evNum e ∈ resting B0.ords (!by_)) ∧ ∀ n p m, e = .trade n p m → p = evPr B0.ords e := fun e he => by
      obtain ⟨x, hx⟩ := hbest.each e he
      obtain ⟨r, hr, e1, e2⟩ := hrec x hx.mem
      have ep := hx.pr hok0.ndn
      refine ⟨r, hr, e1.trans hx.num.symm, by rw [e2, (hok0.os x hx.mem).price, ep], List.mem_map.mpr ⟨x, row_mem.mpr ⟨hx.mem, hx.buy⟩, hx.num.symm⟩, fun n p m z => by rw [ep]; exact hx.price n p m z⟩
    have recE_ : ∀ {σ : L2.St} {Hc : Hp} {Q : VK} {e : Ev} {te : Addr}, e ∈ es → RecAt Hc rd rs → σ[1]? = some (some (.ref rd)) → σ[12]? = some (some (.ref te)) → Hc te = some (.tup (evV e)) → Q (.int (evPr B0.ords e)) Hc → teRec K σ Hc Q := fun {σ Hc Q e te} he hRc h1 h2 ht q => by
      obtain ⟨r, hr, e1, e2, _⟩ := evr e he
      refine ⟨_, h1, dix h2 ht (ev_one e) ⟨rd, _, rfl, .inl ⟨_, Sum.inl (evNum e), .inl hRc.dc, rfl, by rw [← e1]; exact (val_rec hRc.ndn hr).symm⟩, r.ad, .int (evPr B0.ords e), rfl, .inl ⟨_, Sum.inr "price", .inl (hRc.os r hr), rfl, ?_⟩, q⟩⟩
      rw [(val_recF r).2.2.1, e2]
      rfl
    refine ⟨_, rfl, re, rfl, ⟨_, .inl (.inl hre)⟩, fun D8 hD8 => ?_⟩
    refine lc_rel (K := K) (zs := es.zip ys) (enc := Prod.snd) (p := fun _ => true) (R := fun z y _ => y = .int (evPr B0.ords z.1)) (.inl (.inl (by rw [hz]; exact hre))) hzl hD8 (fun _ _ _ _ _ _ _ h => h) ?_ ?_
    · rintro ⟨e, y⟩ hz2 H8 s8 Qy Qn qy qn
      obtain ⟨te, e2, hte⟩ := paired_zip pe _ hz2
      have e2 : y = .ref te := e2
      subst e2
      exact ⟨rfl, iteT (B := Qn H8) (recE_ (List.of_mem_zip hz2).1 (hR.same s8) rfl rfl (s8 _ _ hte) (qy rfl _ H8 (L2.Same.refl _) rfl))⟩
    intro H8 ys8 s8 hD8' hP8
    have e8 := paired_eq hP8
    have ez : ((es.zip ys).map fun z => V.int (evPr B0.ords z.1)) = (es.map (evPr B0.ords)).map V.int := by
      rw [List.map_map]
      exact zip_map (f := fun e : Ev => V.int (evPr B0.ords e)) (paired_len pe)
    rw [List.filter_eq_self.mpr (fun _ _ => rfl), ez] at e8
    rw [e8] at hD8'
    -- sorted
    refine ⟨fun σ' H9 => ∃ p9, H9 p9 = some (.lst ((es.map (evPr B0.ords)).map V.int)) ∧ L2.Same H8 H9 ∧ σ' = [some (V.ref b), some (.ref rd), some (.ref td), some (.ref ft), some (.ref bf), some (.ref re), some (.int ot), some (.ref rO), some (.ref D8), some (.ref p9), none, none, none, none, none], ?_, ?_⟩
    · refine dix rfl (s8 _ _ htd) (v := .str (sideStr by_)) rfl ⟨rfl, _, rfl, ?_⟩
      cases by_ with
      | true =>
        refine ifN (by intro z; cases z) ⟨_, rfl, D8, _, rfl, .inl (.inl hD8'), fun ns' p perm ord hp => ⟨p, ?_, same_new hp, rfl⟩⟩
        rw [sorted_ints_eq perm ord (best_up hok0.ndn hbest)]
        exact upd_same
      | false =>
        refine ifY rfl ⟨_, rfl, D8, _, rfl, rfl, .inl (.inl hD8'), fun ns' p perm ord hp => ⟨p, ?_, same_new hp, rfl⟩⟩
        rw [sorted_down_eq perm ord (best_down hok0.ndn hbest)]
        exact upd_same
    rintro σ' H9 ⟨p9, hp9, s9, rfl⟩
    refine ⟨_, rfl, _, rfl, _, _, dp_ints (s9 _ _ hD8'), dp_ints hp9, ints_shaped _, ints_shaped _, _, rfl, ?_⟩
    rw [eqv_same (ints_shaped _)]
    refine iteF ?_
    have sA := s8.trans s9
    -- who rested, and at whose price
    refine ⟨_, rfl, re, rfl, ⟨_, .inl (.inl (sA _ _ hre))⟩, fun D10 hD10 => ?_⟩
    refine lc_rel (K := K) (zs := es.zip ys) (enc := Prod.snd) (p := fun _ => true) (R := fun z y _ => y = .bl true) (.inl (.inl (by rw [hz]; exact sA _ _ hre))) hzl hD10 (fun _ _ _ _ _ _ _ h => h) ?_ ?_
    · rintro ⟨e, y⟩ hz2 H10 s10 Qy Qn qy qn
      obtain ⟨te, e2, hte⟩ := paired_zip pe _ hz2
      have e2 : y = .ref te := e2
      subst e2
      have he := (List.of_mem_zip hz2).1
      obtain ⟨_, _, _, _, hmem, hpp⟩ := evr e he
      have hte' := s10 _ _ (sA _ _ hte)
      refine ⟨rfl, iteT (B := Qn H10) (dix rfl hte' (ev_one e) ⟨_, rfl, rO, _, rfl, .inl (.inl (.inl (s10 _ _ (sA _ _ hrO)))), rfl, flat_ints _, _, rfl, ?_⟩)⟩
      show if inV (V.int (evNum e)) ((resting B0.ords (!by_)).map V.int) = true then _ else _
      rw [inV_ints, decide_eq_true hmem]
      refine iteT ⟨_, rfl, te, _, rfl, .inr (.inl (.inl hte')), rfl, _, rfl, ?_⟩
      cases e with
      | out n => exact ifY rfl (qy rfl _ H10 (L2.Same.refl _) rfl)
      | trade n p m =>
        refine ifN (by intro z; cases z) (dix rfl hte' (v := .int p) rfl (recE_ he (hR.same (sA.trans s10)) rfl rfl hte' ⟨rfl, qy rfl _ H10 (L2.Same.refl _) ?_⟩))
        exact congrArg V.bl (decide_eq_true (congrArg V.int (hpp n p m rfl)))
    intro H10 ys10 s10 hD10' hP10
    have e10 := paired_eq hP10
    rw [List.filter_eq_self.mpr (fun _ _ => rfl), map_true] at e10
    rw [e10] at hD10'
    refine ⟨D10, _, rfl, .inl (.inl hD10'), _, rfl, ?_⟩
    rw [all_true]
    refine iteF ?_
    have sB := sA.trans s10
    -- how many
    refine ⟨_, rfl, re, rfl, ⟨_, .inl (.inl (sB _ _ hre))⟩, fun D11 hD11 => ?_⟩
    refine lc_rel (K := K) (zs := es.zip ys) (enc := Prod.snd) (p := fun z => isTr z.1) (R := fun z y _ => y = .int (evM z.1)) (.inl (.inl (by rw [hz]; exact sB _ _ hre))) hzl hD11 (fun _ _ _ _ _ _ _ h => h) ?_ ?_
    · rintro ⟨e, y⟩ hz2 H11 s11 Qy Qn qy qn
      obtain ⟨te, e2, hte⟩ := paired_zip pe _ hz2
      have e2 : y = .ref te := e2
      subst e2
      have hte' := s11 _ _ (sB _ _ hte)
      cases e with
      | out n => exact ⟨rfl, dix rfl hte' (v := .str "out") rfl ⟨rfl, _, rfl, ifN (by intro z; cases z) (qn rfl H11 (L2.Same.refl _))⟩⟩
      | trade n p m => exact ⟨rfl, dix rfl hte' (v := .str "trade") rfl ⟨rfl, _, rfl, ifY rfl (dix rfl hte' (v := .int m) rfl (qy rfl _ H11 (L2.Same.refl _) rfl))⟩⟩
    intro H11 ys11 s11 hD11' hP11
    have e11 := paired_eq hP11
    have ez2 : ((es.zip ys).filter fun z => isTr z.1).map (fun z => V.int (evM z.1)) = ((es.filter isTr).map evM).map V.int := by
      rw [List.map_map]
      exact zip_filter (q := isTr) (f := fun e : Ev => V.int (evM e)) (paired_len pe)
    rw [ez2] at e11
    rw [e11] at hD11'
    refine ⟨D11, _, rfl, .inl (.inl hD11'), ?_⟩
    rw [vol_sum]
    have sC := sB.trans s11
    have htd11 := sC _ _ htd
    -- all or nothing
    refine ⟨fun σ' H12 => L2.Same H11 H12 ∧ σ' = [some (V.ref b), some (.ref rd), some (.ref td), some (.ref ft), some (.ref bf), some (.ref re), some (.int ot), some (.ref rO), some (.ref D8), some (.ref p9), some (.int (volE es)), none, none, none, none], ?_, ?_⟩
    · refine dix rfl htd11 (v := .str y.str) rfl ⟨rfl, _, rfl, ?_⟩
      by_cases hy : y = .whole
      · refine ifY (by rw [hy]; rfl) ⟨_, rfl, dix rfl htd11 (v := .int m) rfl ⟨by show 2 ≤ sizeLine; decide, fun t ht => ⟨t, _, rfl, .inr (.inl (.inl upd_same)), rfl, rfl, _, rfl, ?_⟩⟩⟩
        show if (!inV (V.int (volE es)) ([0, m].map V.int)) = true then _ else _
        have hm : volE es ∈ [0, m] := by
          rcases hG.whole hy with ⟨e, _⟩ | e
          · rw [e]
            exact List.mem_cons_self
          · have e : volE es = m := e
            rw [e]
            exact List.mem_cons_of_mem _ List.mem_cons_self
        rw [inV_ints, decide_eq_true hm]
        exact iteF ⟨same_new ht, rfl⟩
      · exact ifN (fun z => hy (wayStr_inj (V.str.inj z))) (iteF ⟨L2.Same.refl _, rfl⟩)
    rintro σ' H12 ⟨s12, rfl⟩
    have sD := sC.trans s12
    have htd12 := sD _ _ htd
    -- nothing
    refine ⟨fun σ' H13 => (H13 = H12 ∧ (y = .whole → volE es ≠ 0)) ∧ σ' = [some (V.ref b), some (.ref rd), some (.ref td), some (.ref ft), some (.ref bf), some (.ref re), some (.int ot), some (.ref rO), some (.ref D8), some (.ref p9), some (.int (volE es)), none, none, none, none], ?_, ?_⟩
    · refine dix rfl htd12 (v := .str y.str) rfl ⟨rfl, _, rfl, ?_⟩
      by_cases hy : y = .whole
      · refine ifY (by rw [hy]; rfl) ⟨_, rfl, rfl, _, rfl, ?_⟩
        by_cases hv : volE es = 0
        · refine ifY (by rw [hv]) ⟨_, rfl, by show 0 ≤ sizeLine; decide, fun q hq => ?_⟩
          have s13 := same_new (o := .lst []) hq
          have hG0 : es = [] ∧ B'.ords = B0.ords := by
            rcases hG.whole hy with ⟨_, e1, e2⟩ | e
            · exact ⟨e1, e2⟩
            · have e : volE es = m := e
              have m1 : 1 ≤ m := hm1
              omega
          have hys : ys = [] := by
            have l := paired_len pe
            rw [hG0.1] at l
            exact List.eq_nil_of_length_eq_zero l
          have hre12 := sD _ _ hre
          rw [hys] at hre12
          refine ⟨.list [], .list [], .lst (.inl (.inl (s13 _ _ hre12))) .nil, .lst (.inl (.inl upd_same)) .nil, rfl, rfl, _, rfl, iteT ?_⟩
          have hB13 := (hB.same sD).same s13
          refine ⟨_, rfl, b, d, B', rfl, hB13, hpr, hlen, fun H14 pq s14 hsh14 => ⟨_, rfl, ?_⟩⟩
          rw [hG0.2] at hsh14
          have hsb : ShownAt H14 B0.ords bf := ShownAt.keep ⟨t1, r1, q1, ys1, t2, r2, q2, ys2, hbf, sa1, sa2⟩ (SeqKeep.of ((sD.trans s13).trans s14))
          refine ⟨_, _, shown_dp hsh14, shown_dp hsb, shown_shaped _, shown_shaped _, ?_⟩
          rw [eqv_same (shown_shaped _)]
          exact k _ ((sD.trans s13).trans s14)
        · exact ifN (fun z => hv (V.int.inj z)) ⟨⟨rfl, fun _ => hv⟩, rfl⟩
      · exact ifN (fun z => hy (wayStr_inj (V.str.inj z))) (iteF ⟨⟨rfl, fun z => absurd z hy⟩, rfl⟩)
    rintro σ' H13 ⟨⟨rfl, hw0⟩, rfl⟩
    -- all of it
    refine ⟨_, rfl, dix rfl htd12 (v := .int m) rfl ⟨rfl, _, rfl, ?_⟩⟩
    by_cases hvm : volE es = m
    · exact ifY (by rw [hvm]) (k _ sD)
    refine ifN (fun z => hvm (V.int.inj z)) ?_
    have hleft : ∀ x ∈ B'.ords, x.buy = (!by_) → suitsP by_ p x.pr = false := fun x hx hb => by
      have q := hG.left hvm hw0 x hx hb
      rw [suits_new] at q
      exact q
    -- who is left
    have hB13 := hB.same sD
    refine ⟨_, rfl, mB hB13 rfl ⟨by show 2 ≤ sizeLine; decide, fun pl hpl => ⟨_, rfl, .inl ⟨pl, _, _, _, rfl, rfl, .inl (.inl upd_same), hq2, ?_⟩⟩⟩⟩
    have s14 := same_new (o := .lst [V.str "buy", V.str "sell"]) hpl
    refine ⟨b, d, B', !by_, rfl, hB13.same s14, hpr, hlen, fun H15 r15 s15 n15 e15 => ⟨r15, rfl, ⟨_, SqL.of e15⟩, fun D16 hD16 => ?_⟩⟩
    rw [rest_num] at e15
    have sE := (sD.trans s14).trans s15
    refine lc_rel (K := K) (zs := row B'.ords (!by_)) (enc := fun o => V.int o.num) (p := fun _ => true) (R := fun z y _ => y = V.int z.pr) (SqL.of e15) (Nat.le_trans (row_len _ _) (Nat.le_trans hlen (by decide))) hD16 (fun _ _ _ _ _ _ _ h => h) ?_ ?_
    · intro z hz H16 s16 Qy Qn qy qn
      have hz1 := (row_mem.mp hz).1
      obtain ⟨r0, hr0, q1, q2, q3, q4, q5⟩ := hK.of z hz1
      refine ⟨rfl, iteT (B := Qn H16) (rec_get (r := r0) rfl (by rw [q1]; rfl) (hR.same (sE.trans s16)) hr0 (val_recF r0).2.2.1 (qy rfl _ H16 (L2.Same.refl _) ?_))⟩
      rw [q3, (hok.os z hz1).price]
      rfl
    intro H16 ys16 s16 hD16' hP16
    have e16 := paired_eq hP16
    rw [List.filter_eq_self.mpr (fun _ _ => rfl), row_pr] at e16
    rw [e16] at hD16'
    have sF := sE.trans s16
    refine ⟨_, rfl, D16, rfl, ⟨_, .inl (.inl hD16')⟩, fun D17 hD17 => ?_⟩
    refine lc_rel (K := K) (zs := (row B'.ords (!by_)).map (·.pr)) (enc := V.int) (p := fun _ => true) (R := fun z y _ => y = V.bl false) (.inl (.inl hD16')) (by rw [List.length_map]; exact Nat.le_trans (row_len _ _) (Nat.le_trans hlen (by decide))) hD17 (fun _ _ _ _ _ _ _ h => h) ?_ ?_
    · intro z hz H17 s17 Qy Qn qy qn
      obtain ⟨o, ho, eo⟩ := List.mem_map.mp hz
      obtain ⟨ho1, ho2⟩ := row_mem.mp ho
      have htd17 := s17 _ _ (sF _ _ htd)
      refine ⟨rfl, iteT (B := Qn H17) (dix rfl htd17 (v := .str (sideStr by_)) rfl (dix rfl htd17 (v := optV p) rfl ⟨_, rfl, by_, p, z, rfl, ?_⟩))⟩
      rw [← eo, hleft o ho1 ho2]
      exact qy rfl _ H17 (L2.Same.refl _) rfl
    intro H17 ys17 s17 hD17' hP17
    have e17 := paired_eq hP17
    rw [List.filter_eq_self.mpr (fun _ _ => rfl)] at e17
    have gen : ∀ L : List Int, (L.map fun _ => V.bl false) = (L.map fun _ => false).map V.bl := fun L => by
      rw [List.map_map]
      rfl
    have e17b : ys17 = (((row B'.ords (!by_)).map (·.pr)).map fun _ => false).map V.bl := by
      rw [e17]
      exact gen _
    rw [e17b] at hD17'
    have ea : (((row B'.ords (!by_)).map (·.pr)).map fun _ => false).any id = false := by
      rw [List.any_eq_false]
      intro y hy
      obtain ⟨_, _, e⟩ := List.mem_map.mp hy
      rw [← e]
      decide
    refine ⟨D17, _, rfl, .inl (.inl hD17'), _, rfl, ?_⟩
    rw [ea]
    exact k _ (sF.trans s17)
  · obtain ⟨fd, F⟩ := T.f_l_good
    exact F.kp
abbrev lawN : List Str := ["_law_script", "_law_book", "_law_record", "_law_k", "_law_deed_here", "_law_before", "_law_calling", "_law_found"]
theorem scLaw : FnScope lawN ["_law_script"] (defScope s_law) := ⟨rfl, rfl, rfl, by decide +kernel, rfl, by decide +kernel, by decide +kernel⟩
theorem w_law (T : Tx K mg) : ∃ fd, Binds K fd ["_law_script"] [] ∧ FunD K "law" "law" (defArgs s_law) (defBody s_law) (defScope s_law) [] [] (He.ga K "law") fd ∧ ∀ base, FnOk P w K mg base CX0 7 (He.ga K "law") fd ["_law_script"] (spLaw K) := by
  refine okL T.f_law scLaw (fun _ _ _ _ _ _ us hl => match us, hl with | [_], _ => rfl) (fun vs H Q E h => ?_) (fun base cdv A outer s H vs Q E hr h => ?_)
  · obtain ⟨a, ns, rfl, _⟩ := h
    rfl
  · obtain ⟨a, ns, rfl, hns, hs, k⟩ := h
    have GB : Cn P w K mg base CX0 1 "Book" ["self"] (spBInit K) := w_B_init T
    have GM : Fn P w K mg base CX0 2 "_law_mix" ["_law_script", "_law_k"] (spMix K) := w_l_mix T
    have GD : Fn P w K mg base CX0 4 "_law_deed" ["_law_script", "_law_k"] (spLDeed K) := w_l_deed T
    have GA : Fn P w K mg base CX0 6 "_law_asked" ["_law_book", "_law_deed_here"] (spAsked K) := w_l_asked T
    have GK : Fn P w K mg base CX0 1 "_law_keep" ["_law_record", "_law_deed_here", "_law_found"] (spKeep K) := w_l_keep T
    have GS : Fn P w K mg base CX0 4 "_law_shown" ["_law_book"] (spLShown K) := w_l_shown T
    have GG : Fn P w K mg base CX0 5 "_law_good" ["_law_book", "_law_record", "_law_deed_here", "_law_found", "_law_before"] (spGood K) := w_l_good T
    have GI : Mt P w K mg base CX0 1 "Book" "is_calling" ["self"] (spIsCalling K) := w_is_calling T
    have hr1 := hr.mono (j := 1) (by decide)
    have hr2 := hr.mono (j := 2) (by decide)
    have hr4 := hr.mono (j := 4) (by decide)
    have hr5 := hr.mono (j := 5) (by decide)
    have hu : A.units + 3 + 64 < cLine := by
      have := hr.un
      have e : (A.deeper (envOfC "law" (defScope s_law) s.heap.objs.size (He.ga K "law") cdv)).units = A.units + 3 := rfl
      omega
    refine ⟨_, pss_cons (ps_set (i := 1) scLaw.nd rfl (Or.inl rfl) (pe_cn0 GB hr2 rfl pass0))
      (pss_cons (ps_set (i := 2) scLaw.nd rfl (Or.inl rfl) pe_dnewK)
      (pss_cons (ps_for PassesOwn.never rfl (pi_range1 rfl T.z_range (pa_cons (pe_op op_mod (pe_fn GM hr2 rfl pass0 (pa_cons (pv 0) (pa_cons pe_int pa_nil))) pe_int) pa_nil)) (pg_name (i := 3) scLaw.nd rfl (Or.inl rfl))
        (pss_cons (ps_set (i := 4) scLaw.nd rfl (Or.inl rfl) (pe_fn GD hr4 rfl pass0 (pa_cons (pv 0) (pa_cons (pe_op op_add pe_int (pe_op op_mul pe_int (pv 3))) pa_nil))))
        (pss_cons (ps_set (i := 5) scLaw.nd rfl (Or.inl rfl) (pe_fn GS hr4 rfl pass0 (pa_cons (pv 1) pa_nil)))
        (pss_cons (ps_set (i := 6) scLaw.nd rfl (Or.inl rfl) (pe_mt0 (pv 1) GI hr1 pass0))
        (pss_cons (ps_set (i := 7) scLaw.nd rfl (Or.inl rfl) (pe_fn GA hr rfl pass0 (pa_cons (pv 1) (pa_cons (pv 4) pa_nil))))
        (pss_cons (ps_if (pt_cmpR (op_eqD hu) (pv 7) pe_str (nomark _)) (pss_one (ps_ret pe_bl)) pss_nil)
        (pss_cons (ps_expr (pe_fn GK hr1 rfl pass0 (pa_cons (pv 2) (pa_cons (pv 4) (pa_cons (pv 7) pa_nil)))))
        (pss_one (ps_if (PW.pt (pw_and (pt_cmpR op_eq (pe_ix (r := rIx K) ix_seq (pv 4) pe_int (fun _ _ => rfl)) pe_str (nomark _)) (pw_and (pt_val (pe_callB call_isi rfl T.z_isinstance PyProof.Rows.boot_isinstance (pa_cons (pv 7) (pa_cons (pe_bltn (v := .ty "tuple") (u := .type "tuple") rfl T.z_tuple (by decide +kernel) rfl) pa_nil)))) (pw_and1 (pt_not (pt_val (pv 6)))))))
          (pss_one (ps_if (pt_not (pt_val (pe_fn GG hr5 rfl pass0 (pa_cons (pv 1) (pa_cons (pv 2) (pa_cons (pv 4) (pa_cons (pv 7) (pa_cons (pv 5) pa_nil)))))))) (pss_one (ps_ret pe_bl)) pss_nil)) pss_nil)))))))))
      (pss_one (ps_ret pe_bl)))), ?_⟩
    refine fun x dx nx ndx nex => ⟨x, dx, rfl, upd_same, fun d H0 hd hB0 sb => ⟨rfl, ?_⟩⟩
    have sm : L2.Same H H0 := L2.Same.made nx ndx (fun b o e n => sb b o n e)
    refine fun rd hrd => ?_
    have s0 := same_new (o := .dK []) hrd
    have nrd : rd ≠ d := fun z => by
      rw [z, hB0.dc] at hrd
      cases hrd
    refine ⟨_, rfl, a, ns, 0, rfl, same_seqL (sm.trans s0) hs, by decide, fun n n0 n1 => ⟨_, _, rfl, rfl, pos_lit (by decide), n % 25, rfl, by omega, by omega, ?_⟩⟩
    refine for_range (fun i σ H' => ∃ (B : Bk) (rs : List Rec) (v3 v4 v5 v6 v7 : Option V), σ = [some (.ref a), some (.ref x), some (.ref rd), v3, v4, v5, v6, v7] ∧ LI K a x d rd ns i H' B rs)
      ⟨emptyB, [], none, none, none, none, none, rfl, same_seqL (sm.trans s0) hs, hB0.same s0, ⟨nofun, List.nodup_nil, List.nodup_nil, Int.le_refl 0, Int.le_refl 0⟩, ⟨upd_same, nofun, List.nodup_nil, List.nodup_nil, nofun⟩, nrd, nofun, ⟨nofun, nofun⟩, fun _ => nofun, Nat.le_refl 0, Nat.le_refl 0⟩ ?_ ?_
    · rintro i σ H2 hi ⟨B, rs, v3, v4, v5, v6, v7, rfl, I⟩
      have hi25 : i < 25 := by omega
      refine ⟨_, rfl, _, rfl, _, _, rfl, rfl, .inl ⟨by decide, by decide⟩, _, _, rfl, rfl, a, ns, _, rfl, I.sq, by omega, fun dd xs t H3 s3 had htn ht => ?_⟩
      have I3 := I.same s3
      have hlB : B.ords.length ≤ 900 := by have := I.len; omega
      refine ⟨_, rfl, x, d, B, rfl, I3.hB, priced_of I3.ok, by omega, fun H4 pb s4 hsh => ?_⟩
      have I4 := I3.same s4
      have ht4 := s4 _ _ ht
      refine ⟨_, rfl, mB I4.hB rfl ⟨x, d, B, rfl, I4.hB, ?_⟩⟩
      refine ⟨_, rfl, _, rfl, x, d, t, B, dd, xs, rfl, I4.hB, I4.ok, hlB, ht4, had, fun an B' H5 v di hB5 k5 av => ?_⟩
      refine ⟨_, rfl, an.data, .str "wrong", ans_dp av, .str _, ans_shaped an, wrong_shaped, _, rfl, ?_⟩
      rw [ans_wrong]
      refine iteF ?_
      have sk5 := SeqKeep.kd k5 ⟨_, I4.hB.dc⟩
      have ht5 := sk5.1 _ _ ht4
      refine ⟨_, rfl, _, rfl, _, rfl, rd, t, v, rs, dd, an, xs, rfl, I4.mid k5, by have := I4.rlen; omega, ht5, had, (did_ok I4.ok di).fits, av, I4.fresh di, I4.chg di, I4.can di, fun H6 ad hfree hR6 rk => ?_⟩
      have I6 := I4.turn di hB5 k5 hfree hR6 rk
      have fit := (did_ok I4.ok di).fits
      have sk6 := SeqKeep.rk rk (I4.mid k5)
      have ht6 := sk6.1 _ _ ht5
      have av6 := av.keep sk6
      have hsh6 := (hsh.keep sk5).keep sk6
      have wd := deed_word had
      have hrec : ∀ o ∈ B.ords, ∃ r ∈ keepR rs dd an ad, r.n = o.num ∧ r.price = o.price := fun o ho => by
        obtain ⟨r0, h0, q1, q2, q3, q4, q5⟩ := I4.known.of o ho
        obtain ⟨r, hr, e1, _, _, _, e4, _⟩ := keep_mem (dd := dd) (a := an) (ad := ad) h0
        exact ⟨r, hr, e1.trans q1, e4.trans q3⟩
      obtain ⟨ty, tyx, kit⟩ := ans_tuple fit av6
      refine dix rfl ht6 wd ⟨rfl, _, rfl, ?_⟩
      by_cases hw : dd.word = "place"
      · rw [hw]
        refine ifY rfl ⟨_, rfl, v, .ty "tuple", ty, .type "tuple", _, rfl, .ty _, tyx, kit, _, rfl, ?_⟩
        cases an with
        | placed n' es =>
          cases dd with
          | place ow by_ p m sh y =>
            refine iteT ⟨_, rfl, _, rfl, ?_⟩
            cases hc : B.calling with
            | true => exact iteF ⟨_, _, _, _, _, _, _, rfl, I6⟩
            | false =>
              obtain ⟨tt, r, ys, rfl, htt, hrr, pe⟩ := av6
              rcases di with ⟨_, e, _⟩ | ⟨_, _, _, e, _⟩ | ⟨g, _, ad2, e, eB⟩
              · cases e
              · cases e
              · have hes : es.length ≤ 10900 := did_len (B := B) (B' := B') (dd := .place ow by_ p m sh y) (n := n') (.inr (.inr ⟨g, by rw [hc]; exact (fun z => nomatch z), ad2, e, eB⟩)) hlB
                obtain ⟨e1, e2⟩ := Ans.placed.inj e
                have hxs : xs = [.str "place", .int ow, .str (sideStr by_), optV p, .int m, optV sh, .str y.str] := had
                rw [hxs] at ht6
                have GP := good_plain (ad := ad2) (owner := ow) (b := by_) I4.ok hc g
                rw [← e2, ← eB] at GP
                refine iteT ⟨_, rfl, _, rfl, _, rfl, _, rfl, _, rfl, x, d, rd, t, tt, pb, r, B, B', _, ow, by_, p, m, sh, y, ad2, n', es, ys, rfl, I6.hB, I6.ok, by have := I6.len; omega, I6.hR, I6.known, ht6, htt, hrr, pe, hsh6, I4.ok, by omega, hes, g.m1, GP, hrec, fun H7 s7 => ⟨_, rfl, iteF ?_⟩⟩
                exact ⟨_, _, _, _, _, _, _, rfl, I6.same s7⟩
          | _ => cases hw
        | _ => exact iteF (iteF ⟨_, _, _, _, _, _, _, rfl, I6⟩)
      · exact ifN (fun z => hw (V.str.inj z)) (iteF ⟨_, _, _, _, _, _, _, rfl, I6⟩)
    · rintro σ H2 ⟨B, rs, v3, v4, v5, v6, v7, rfl, I⟩
      exact k _
end
end FB

set_option maxRecDepth 100000
set_option maxHeartbeats 0
namespace FB
open PySem PySem.Spec PyProof.Rows L2
def d_O_init : He.DefD := ⟨("Order", some "__init__"), "__init__", "Order.__init__", defArgs s_O_init, defBody s_O_init, defScope s_O_init, [], []⟩
def d_O_show : He.DefD := ⟨("Order", some "show"), "show", "Order.show", defArgs s_O_show, defBody s_O_show, defScope s_O_show, [], []⟩
def d_O_suits : He.DefD := ⟨("Order", some "suits"), "suits", "Order.suits", defArgs s_O_suits, defBody s_O_suits, defScope s_O_suits, [], []⟩
def d_O_rank : He.DefD := ⟨("Order", some "rank"), "rank", "Order.rank", defArgs s_O_rank, defBody s_O_rank, defScope s_O_rank, [], []⟩
def d_other_side : He.DefD := ⟨("other_side", none), "other_side", "other_side", defArgs s_other_side, defBody s_other_side, defScope s_other_side, [], []⟩
def d_is_count : He.DefD := ⟨("is_count", none), "is_count", "is_count", defArgs s_is_count, defBody s_is_count, defScope s_is_count, [], []⟩
def d_look_order : He.DefD := ⟨("look_order", none), "look_order", "look_order", defArgs s_look_order, defBody s_look_order, defScope s_look_order, [], []⟩
def d_can_fill : He.DefD := ⟨("can_fill", none), "can_fill", "can_fill", defArgs s_can_fill, defBody s_can_fill, defScope s_can_fill, [], []⟩
def d_meet : He.DefD := ⟨("meet", none), "meet", "meet", defArgs s_meet, defBody s_meet, defScope s_meet, [], []⟩
def d_matched : He.DefD := ⟨("matched", none), "matched", "matched", defArgs s_matched, defBody s_matched, defScope s_matched, [], []⟩
def d_place : He.DefD := ⟨("place", none), "place", "place", defArgs s_place, defBody s_place, defScope s_place, [], []⟩
def d_cancel : He.DefD := ⟨("cancel", none), "cancel", "cancel", defArgs s_cancel, defBody s_cancel, defScope s_cancel, [], []⟩
def d_change : He.DefD := ⟨("change", none), "change", "change", defArgs s_change, defBody s_change, defScope s_change, [], []⟩
def d_B_init : He.DefD := ⟨("Book", some "__init__"), "__init__", "Book.__init__", defArgs s_B_init, defBody s_B_init, defScope s_B_init, [], []⟩
def d_B_row : He.DefD := ⟨("Book", some "row"), "row", "Book.row", defArgs s_B_row, defBody s_B_row, defScope s_B_row, [], []⟩
def d_B_resting : He.DefD := ⟨("Book", some "resting"), "resting", "Book.resting", defArgs s_B_resting, defBody s_B_resting, defScope s_B_resting, [], []⟩
def d_B_depth : He.DefD := ⟨("Book", some "depth"), "depth", "Book.depth", defArgs s_B_depth, defBody s_B_depth, defScope s_B_depth, [], []⟩
def d_B_need : He.DefD := ⟨("Book", some "need"), "need", "Book.need", defArgs s_B_need, defBody s_B_need, defScope s_B_need, [], []⟩
def d_B_left : He.DefD := ⟨("Book", some "left"), "left", "Book.left", defArgs s_B_left, defBody s_B_left, defScope s_B_left, [], []⟩
def d_B_shown : He.DefD := ⟨("Book", some "shown"), "shown", "Book.shown", defArgs s_B_shown, defBody s_B_shown, defScope s_B_shown, [], []⟩
def d_B_is_calling : He.DefD := ⟨("Book", some "is_calling"), "is_calling", "Book.is_calling", defArgs s_B_is_calling, defBody s_B_is_calling, defScope s_B_is_calling, [], []⟩
def d_B_put : He.DefD := ⟨("Book", some "put"), "put", "Book.put", defArgs s_B_put, defBody s_B_put, defScope s_B_put, [], []⟩
def d_B_trade : He.DefD := ⟨("Book", some "trade"), "trade", "Book.trade", defArgs s_B_trade, defBody s_B_trade, defScope s_B_trade, [], []⟩
def d_call : He.DefD := ⟨("call", none), "call", "call", defArgs s_call, defBody s_call, defScope s_call, [], []⟩
def d_wanted : He.DefD := ⟨("wanted", none), "wanted", "wanted", defArgs s_wanted, defBody s_wanted, defScope s_wanted, [], []⟩
def d_call_price : He.DefD := ⟨("call_price", none), "call_price", "call_price", defArgs s_call_price, defBody s_call_price, defScope s_call_price, [], []⟩
def d_uncross : He.DefD := ⟨("uncross", none), "uncross", "uncross", defArgs s_uncross, defBody s_uncross, defScope s_uncross, [], []⟩
def d_l_cell : He.DefD := ⟨("_law_cell", none), "_law_cell", "_law_cell", defArgs s_l_cell, defBody s_l_cell, defScope s_l_cell, [], []⟩
def d_l_mix : He.DefD := ⟨("_law_mix", none), "_law_mix", "_law_mix", defArgs s_l_mix, defBody s_l_mix, defScope s_l_mix, [], []⟩
def d_l_price : He.DefD := ⟨("_law_price", none), "_law_price", "_law_price", defArgs s_l_price, defBody s_l_price, defScope s_l_price, [], []⟩
def d_l_deed : He.DefD := ⟨("_law_deed", none), "_law_deed", "_law_deed", defArgs s_l_deed, defBody s_l_deed, defScope s_l_deed, [], []⟩
def d_l_asked : He.DefD := ⟨("_law_asked", none), "_law_asked", "_law_asked", defArgs s_l_asked, defBody s_l_asked, defScope s_l_asked, [], []⟩
def d_l_keep : He.DefD := ⟨("_law_keep", none), "_law_keep", "_law_keep", defArgs s_l_keep, defBody s_l_keep, defScope s_l_keep, [], []⟩
def d_l_shown : He.DefD := ⟨("_law_shown", none), "_law_shown", "_law_shown", defArgs s_l_shown, defBody s_l_shown, defScope s_l_shown, [], []⟩
def d_l_suits : He.DefD := ⟨("_law_suits", none), "_law_suits", "_law_suits", defArgs s_l_suits, defBody s_l_suits, defScope s_l_suits, [], []⟩
def d_l_good : He.DefD := ⟨("_law_good", none), "_law_good", "_law_good", defArgs s_l_good, defBody s_l_good, defScope s_l_good, [], []⟩
def d_law : He.DefD := ⟨("law", none), "law", "law", defArgs s_law, defBody s_law, defScope s_law, [], []⟩
def hfn : List He.DefD := [d_O_init, d_O_show, d_O_suits, d_O_rank, d_other_side, d_is_count, d_look_order, d_can_fill, d_meet, d_matched, d_place, d_cancel, d_change, d_B_init, d_B_row, d_B_resting, d_B_depth, d_B_need, d_B_left, d_B_shown, d_B_is_calling, d_B_put, d_B_trade, d_call, d_wanted, d_call_price, d_uncross, d_l_cell, d_l_mix, d_l_price, d_l_deed, d_l_asked, d_l_keep, d_l_shown, d_l_suits, d_l_good, d_law]
def hfa0 : List He.Fa := [.glo "BadOrder", .glo "Book", .glo "BookError", .glo "NotNow", .glo "NotThere", .glo "Order", .glo "_law_asked", .glo "_law_cell", .glo "_law_deed", .glo "_law_good", .glo "_law_keep", .glo "_law_mix", .glo "_law_price", .glo "_law_shown", .glo "_law_suits", .glo "call", .glo "call_price", .glo "can_fill", .glo "cancel", .glo "change", .glo "is_count", .glo "law", .glo "look_order", .glo "matched", .glo "meet", .glo "other_side", .glo "place", .glo "uncross", .glo "wanted", .free "sorted"]
def hfa1 : List He.Fa := [.free "sum", .free "min", .free "abs", .free "len", .free "range", .free "int", .free "isinstance", .free "any", .free "all", .free "tuple", .free "str", .free "ValueError", .str "BUY" "buy", .str "SELL" "sell", .str "REST" "rest", .int "MOST_COUNT" 10000, .int "MOST_PRICE" 1000000000, .cls "Order", .mkr "Order", .noat "Order" "number", .noat "Order" "owner", .noat "Order" "side", .noat "Order" "price", .noat "Order" "rest", .noat "Order" "shows", .noat "Order" "part", .noat "Order" "place", .cls "Book", .mkr "Book", .noat "Book" "orders"]
def hfa2 : List He.Fa := [.noat "Book" "many", .noat "Book" "places", .noat "Book" "price", .noat "Book" "traded", .noat "Book" "calling", .meth "Order" "show", .meth "Order" "suits", .meth "Order" "rank", .meth "Book" "row", .meth "Book" "resting", .meth "Book" "depth", .meth "Book" "need", .meth "Book" "left", .meth "Book" "shown", .meth "Book" "is_calling", .meth "Book" "put", .meth "Book" "trade", .exc "BadOrder", .exm "BadOrder" "BookError" true, .exc "NotThere", .exm "NotThere" "BookError" true, .exc "NotNow", .exm "NotNow" "BookError" true]
def hfa : List He.Fa := hfa0 ++ hfa1 ++ hfa2
def hxb (K : PySem.W.Frag) : List Bool := [He.tupB K "WAYS" [.str "rest", .str "now", .str "whole"],
  (He.Fa.glo "WAYS").ok K,
  excCB K (He.ga K "BadOrder"),
  decide (PySem.W.kitOne K (.ref (He.ga K "BadOrder")) (.ref (He.ga K "BadOrder")) = some true),
  decide (PySem.W.kitOne K (.ref (He.ga K "BadOrder")) (.ref (He.ga K "NotThere")) = some false),
  decide (PySem.W.kitOne K (.ref (He.ga K "BadOrder")) (.ref (He.ga K "NotNow")) = some false),
  decide (PySem.W.kitOne K (.ref (He.ga K "BadOrder")) (.type "ValueError") = some true),
  excCB K (He.ga K "NotThere"),
  decide (PySem.W.kitOne K (.ref (He.ga K "NotThere")) (.ref (He.ga K "BadOrder")) = some false),
  decide (PySem.W.kitOne K (.ref (He.ga K "NotThere")) (.ref (He.ga K "NotThere")) = some true),
  decide (PySem.W.kitOne K (.ref (He.ga K "NotThere")) (.ref (He.ga K "NotNow")) = some false),
  decide (PySem.W.kitOne K (.ref (He.ga K "NotThere")) (.type "ValueError") = some true),
  excCB K (He.ga K "NotNow"),
  decide (PySem.W.kitOne K (.ref (He.ga K "NotNow")) (.ref (He.ga K "BadOrder")) = some false),
  decide (PySem.W.kitOne K (.ref (He.ga K "NotNow")) (.ref (He.ga K "NotThere")) = some false),
  decide (PySem.W.kitOne K (.ref (He.ga K "NotNow")) (.ref (He.ga K "NotNow")) = some true),
  decide (PySem.W.kitOne K (.ref (He.ga K "NotNow")) (.type "ValueError") = some true)]
def hob (s : PySem.W.SharedT) : Bool × He.AlD := obsX 4 hfa hfn hxb (HandSHeadRun.getT s)
theorem hob_eq (s : PySem.W.SharedT) : hob s = (hookX 4 hfa hfn hxb).obs s.abs := obsX_eq (HandSHeadRun.getT_eq s)
def hloose0 : List Str := ["_wall", "BookError", "BadOrder", "NotThere", "NotNow", "BUY", "SELL", "REST", "WAYS", "MOST_COUNT", "MOST_PRICE", "Order", "other_side", "is_count", "look_order", "can_fill", "meet", "matched", "place", "cancel", "change", "Book", "call", "wanted", "call_price", "uncross", "_law_cell", "_law_mix", "_law_price", "_law_deed"]
def hloose1 : List Str := ["_law_asked", "_law_keep", "_law_shown", "_law_suits", "_law_good"]
def hloose : List Str := hloose0 ++ hloose1
theorem hrun (w : World) : HandSHeadRun.RunEq (PySem.W.OpenLaw.row PySem.Challenge.rw_fairbook_k22_whole_best_first) (PySem.W.view (PySem.W.OpenLaw.row PySem.Challenge.rw_fairbook_k22_whole_best_first).prog [41]) (hookX 4 hfa hfn hxb) hob 4000 hloose w := by
  intro os
  kernel_rfl
theorem tx_of {K : PySem.W.Frag} {h : Heap} {mg : Str → Option Value} (X : K.In h) (G : h.Ns mainGlobals mg) (c : He.SaysD hfa hfn K) (cx : (hxb K).all id = true) : Tx K mg where
  f_O_init := c.def_ 0 (d := d_O_init) rfl
  f_O_show := c.def_ 1 (d := d_O_show) rfl
  f_O_suits := c.def_ 2 (d := d_O_suits) rfl
  f_O_rank := c.def_ 3 (d := d_O_rank) rfl
  f_other_side := c.def_ 4 (d := d_other_side) rfl
  f_is_count := c.def_ 5 (d := d_is_count) rfl
  f_look_order := c.def_ 6 (d := d_look_order) rfl
  f_can_fill := c.def_ 7 (d := d_can_fill) rfl
  f_meet := c.def_ 8 (d := d_meet) rfl
  f_matched := c.def_ 9 (d := d_matched) rfl
  f_place := c.def_ 10 (d := d_place) rfl
  f_cancel := c.def_ 11 (d := d_cancel) rfl
  f_change := c.def_ 12 (d := d_change) rfl
  f_B_init := c.def_ 13 (d := d_B_init) rfl
  f_B_row := c.def_ 14 (d := d_B_row) rfl
  f_B_resting := c.def_ 15 (d := d_B_resting) rfl
  f_B_depth := c.def_ 16 (d := d_B_depth) rfl
  f_B_need := c.def_ 17 (d := d_B_need) rfl
  f_B_left := c.def_ 18 (d := d_B_left) rfl
  f_B_shown := c.def_ 19 (d := d_B_shown) rfl
  f_B_is_calling := c.def_ 20 (d := d_B_is_calling) rfl
  f_B_put := c.def_ 21 (d := d_B_put) rfl
  f_B_trade := c.def_ 22 (d := d_B_trade) rfl
  f_call := c.def_ 23 (d := d_call) rfl
  f_wanted := c.def_ 24 (d := d_wanted) rfl
  f_call_price := c.def_ 25 (d := d_call_price) rfl
  f_uncross := c.def_ 26 (d := d_uncross) rfl
  f_l_cell := c.def_ 27 (d := d_l_cell) rfl
  f_l_mix := c.def_ 28 (d := d_l_mix) rfl
  f_l_price := c.def_ 29 (d := d_l_price) rfl
  f_l_deed := c.def_ 30 (d := d_l_deed) rfl
  f_l_asked := c.def_ 31 (d := d_l_asked) rfl
  f_l_keep := c.def_ 32 (d := d_l_keep) rfl
  f_l_shown := c.def_ 33 (d := d_l_shown) rfl
  f_l_suits := c.def_ 34 (d := d_l_suits) rfl
  f_l_good := c.def_ 35 (d := d_l_good) rfl
  f_law := c.def_ 36 (d := d_law) rfl
  g_BadOrder := He.glo_ok X G (c.fact 0 (f := .glo "BadOrder") rfl)
  g_Book := He.glo_ok X G (c.fact 1 (f := .glo "Book") rfl)
  g_BookError := He.glo_ok X G (c.fact 2 (f := .glo "BookError") rfl)
  g_NotNow := He.glo_ok X G (c.fact 3 (f := .glo "NotNow") rfl)
  g_NotThere := He.glo_ok X G (c.fact 4 (f := .glo "NotThere") rfl)
  g_Order := He.glo_ok X G (c.fact 5 (f := .glo "Order") rfl)
  g_l_asked := He.glo_ok X G (c.fact 6 (f := .glo "_law_asked") rfl)
  g_l_cell := He.glo_ok X G (c.fact 7 (f := .glo "_law_cell") rfl)
  g_l_deed := He.glo_ok X G (c.fact 8 (f := .glo "_law_deed") rfl)
  g_l_good := He.glo_ok X G (c.fact 9 (f := .glo "_law_good") rfl)
  g_l_keep := He.glo_ok X G (c.fact 10 (f := .glo "_law_keep") rfl)
  g_l_mix := He.glo_ok X G (c.fact 11 (f := .glo "_law_mix") rfl)
  g_l_price := He.glo_ok X G (c.fact 12 (f := .glo "_law_price") rfl)
  g_l_shown := He.glo_ok X G (c.fact 13 (f := .glo "_law_shown") rfl)
  g_l_suits := He.glo_ok X G (c.fact 14 (f := .glo "_law_suits") rfl)
  g_call := He.glo_ok X G (c.fact 15 (f := .glo "call") rfl)
  g_call_price := He.glo_ok X G (c.fact 16 (f := .glo "call_price") rfl)
  g_can_fill := He.glo_ok X G (c.fact 17 (f := .glo "can_fill") rfl)
  g_cancel := He.glo_ok X G (c.fact 18 (f := .glo "cancel") rfl)
  g_change := He.glo_ok X G (c.fact 19 (f := .glo "change") rfl)
  g_is_count := He.glo_ok X G (c.fact 20 (f := .glo "is_count") rfl)
  g_law := He.glo_ok X G (c.fact 21 (f := .glo "law") rfl)
  g_look_order := He.glo_ok X G (c.fact 22 (f := .glo "look_order") rfl)
  g_matched := He.glo_ok X G (c.fact 23 (f := .glo "matched") rfl)
  g_meet := He.glo_ok X G (c.fact 24 (f := .glo "meet") rfl)
  g_other_side := He.glo_ok X G (c.fact 25 (f := .glo "other_side") rfl)
  g_place := He.glo_ok X G (c.fact 26 (f := .glo "place") rfl)
  g_uncross := He.glo_ok X G (c.fact 27 (f := .glo "uncross") rfl)
  g_wanted := He.glo_ok X G (c.fact 28 (f := .glo "wanted") rfl)
  z_sorted := He.free_ok X G (c.fact 29 (f := .free "sorted") rfl)
  z_sum := He.free_ok X G (c.fact 30 (f := .free "sum") rfl)
  z_min := He.free_ok X G (c.fact 31 (f := .free "min") rfl)
  z_abs := He.free_ok X G (c.fact 32 (f := .free "abs") rfl)
  z_len := He.free_ok X G (c.fact 33 (f := .free "len") rfl)
  z_range := He.free_ok X G (c.fact 34 (f := .free "range") rfl)
  z_int := He.free_ok X G (c.fact 35 (f := .free "int") rfl)
  z_isinstance := He.free_ok X G (c.fact 36 (f := .free "isinstance") rfl)
  z_any := He.free_ok X G (c.fact 37 (f := .free "any") rfl)
  z_all := He.free_ok X G (c.fact 38 (f := .free "all") rfl)
  z_tuple := He.free_ok X G (c.fact 39 (f := .free "tuple") rfl)
  z_str := He.free_ok X G (c.fact 40 (f := .free "str") rfl)
  z_ValueError := He.free_ok X G (c.fact 41 (f := .free "ValueError") rfl)
  k_BUY := He.str_ok X G (c.fact 42 (f := .str "BUY" "buy") rfl)
  k_SELL := He.str_ok X G (c.fact 43 (f := .str "SELL" "sell") rfl)
  k_REST := He.str_ok X G (c.fact 44 (f := .str "REST" "rest") rfl)
  k_MOST_COUNT := He.int_ok X G (c.fact 45 (f := .int "MOST_COUNT" 10000) rfl)
  k_MOST_PRICE := He.int_ok X G (c.fact 46 (f := .int "MOST_PRICE" 1000000000) rfl)
  clO := He.cls_ok (c.fact 47 (f := .cls "Order") rfl)
  mkO := He.mkr_ok (c.fact 48 (f := .mkr "Order") rfl)
  nO_number := He.noat_ok (c.fact 49 (f := .noat "Order" "number") rfl)
  nO_owner := He.noat_ok (c.fact 50 (f := .noat "Order" "owner") rfl)
  nO_side := He.noat_ok (c.fact 51 (f := .noat "Order" "side") rfl)
  nO_price := He.noat_ok (c.fact 52 (f := .noat "Order" "price") rfl)
  nO_rest := He.noat_ok (c.fact 53 (f := .noat "Order" "rest") rfl)
  nO_shows := He.noat_ok (c.fact 54 (f := .noat "Order" "shows") rfl)
  nO_part := He.noat_ok (c.fact 55 (f := .noat "Order" "part") rfl)
  nO_place := He.noat_ok (c.fact 56 (f := .noat "Order" "place") rfl)
  clB := He.cls_ok (c.fact 57 (f := .cls "Book") rfl)
  mkB := He.mkr_ok (c.fact 58 (f := .mkr "Book") rfl)
  nB_orders := He.noat_ok (c.fact 59 (f := .noat "Book" "orders") rfl)
  nB_many := He.noat_ok (c.fact 60 (f := .noat "Book" "many") rfl)
  nB_places := He.noat_ok (c.fact 61 (f := .noat "Book" "places") rfl)
  nB_price := He.noat_ok (c.fact 62 (f := .noat "Book" "price") rfl)
  nB_traded := He.noat_ok (c.fact 63 (f := .noat "Book" "traded") rfl)
  nB_calling := He.noat_ok (c.fact 64 (f := .noat "Book" "calling") rfl)
  m_O_show := He.meth_ok (c.fact 65 (f := .meth "Order" "show") rfl)
  m_O_suits := He.meth_ok (c.fact 66 (f := .meth "Order" "suits") rfl)
  m_O_rank := He.meth_ok (c.fact 67 (f := .meth "Order" "rank") rfl)
  m_B_row := He.meth_ok (c.fact 68 (f := .meth "Book" "row") rfl)
  m_B_resting := He.meth_ok (c.fact 69 (f := .meth "Book" "resting") rfl)
  m_B_depth := He.meth_ok (c.fact 70 (f := .meth "Book" "depth") rfl)
  m_B_need := He.meth_ok (c.fact 71 (f := .meth "Book" "need") rfl)
  m_B_left := He.meth_ok (c.fact 72 (f := .meth "Book" "left") rfl)
  m_B_shown := He.meth_ok (c.fact 73 (f := .meth "Book" "shown") rfl)
  m_B_is_calling := He.meth_ok (c.fact 74 (f := .meth "Book" "is_calling") rfl)
  m_B_put := He.meth_ok (c.fact 75 (f := .meth "Book" "put") rfl)
  m_B_trade := He.meth_ok (c.fact 76 (f := .meth "Book" "trade") rfl)
  e_BadOrder := He.exc_ok (c.fact 77 (f := .exc "BadOrder") rfl)
  x_BadOrder := He.exm_ok (c.fact 78 (f := .exm "BadOrder" "BookError" true) rfl)
  e_NotThere := He.exc_ok (c.fact 79 (f := .exc "NotThere") rfl)
  x_NotThere := He.exm_ok (c.fact 80 (f := .exm "NotThere" "BookError" true) rfl)
  e_NotNow := He.exc_ok (c.fact 81 (f := .exc "NotNow") rfl)
  x_NotNow := He.exm_ok (c.fact 82 (f := .exm "NotNow" "BookError" true) rfl)
  t_WAYS := fun H => He.tupB_ok (vs := [.str "rest", .str "now", .str "whole"]) (allB cx 0 (b := He.tupB K "WAYS" [.str "rest", .str "now", .str "whole"]) rfl) H
  g_WAYS := He.glo_ok X G (allB cx 1 (b := (He.Fa.glo "WAYS").ok K) rfl)
  i_BadOrder := excCB_ok (allB cx 2 (b := excCB K (He.ga K "BadOrder")) rfl)
  i_BadOrder_BadOrder := of_decide_eq_true (allB cx 3 (b := decide (PySem.W.kitOne K (.ref (He.ga K "BadOrder")) (.ref (He.ga K "BadOrder")) = some true)) rfl)
  i_BadOrder_NotThere := of_decide_eq_true (allB cx 4 (b := decide (PySem.W.kitOne K (.ref (He.ga K "BadOrder")) (.ref (He.ga K "NotThere")) = some false)) rfl)
  i_BadOrder_NotNow := of_decide_eq_true (allB cx 5 (b := decide (PySem.W.kitOne K (.ref (He.ga K "BadOrder")) (.ref (He.ga K "NotNow")) = some false)) rfl)
  i_BadOrder_VE := of_decide_eq_true (allB cx 6 (b := decide (PySem.W.kitOne K (.ref (He.ga K "BadOrder")) (.type "ValueError") = some true)) rfl)
  i_NotThere := excCB_ok (allB cx 7 (b := excCB K (He.ga K "NotThere")) rfl)
  i_NotThere_BadOrder := of_decide_eq_true (allB cx 8 (b := decide (PySem.W.kitOne K (.ref (He.ga K "NotThere")) (.ref (He.ga K "BadOrder")) = some false)) rfl)
  i_NotThere_NotThere := of_decide_eq_true (allB cx 9 (b := decide (PySem.W.kitOne K (.ref (He.ga K "NotThere")) (.ref (He.ga K "NotThere")) = some true)) rfl)
  i_NotThere_NotNow := of_decide_eq_true (allB cx 10 (b := decide (PySem.W.kitOne K (.ref (He.ga K "NotThere")) (.ref (He.ga K "NotNow")) = some false)) rfl)
  i_NotThere_VE := of_decide_eq_true (allB cx 11 (b := decide (PySem.W.kitOne K (.ref (He.ga K "NotThere")) (.type "ValueError") = some true)) rfl)
  i_NotNow := excCB_ok (allB cx 12 (b := excCB K (He.ga K "NotNow")) rfl)
  i_NotNow_BadOrder := of_decide_eq_true (allB cx 13 (b := decide (PySem.W.kitOne K (.ref (He.ga K "NotNow")) (.ref (He.ga K "BadOrder")) = some false)) rfl)
  i_NotNow_NotThere := of_decide_eq_true (allB cx 14 (b := decide (PySem.W.kitOne K (.ref (He.ga K "NotNow")) (.ref (He.ga K "NotThere")) = some false)) rfl)
  i_NotNow_NotNow := of_decide_eq_true (allB cx 15 (b := decide (PySem.W.kitOne K (.ref (He.ga K "NotNow")) (.ref (He.ga K "NotNow")) = some true)) rfl)
  i_NotNow_VE := of_decide_eq_true (allB cx 16 (b := decide (PySem.W.kitOne K (.ref (He.ga K "NotNow")) (.type "ValueError") = some true)) rfl)
end FB

set_option maxRecDepth 100000
open PySem PySem.W PySem.Calls PyProof.Rows FB
theorem PySem.Challenge.cw_fairbook_k22_whole_best_first_holds : PySem.Challenge.rw_fairbook_k22_whole_best_first.Holds := by
  w_on; o_law
  refine HandSHeadRun.head_any (r := OpenLaw.row PySem.Challenge.rw_fairbook_k22_whole_best_first) (q := view (OpenLaw.row PySem.Challenge.rw_fairbook_k22_whole_best_first).prog [41]) (H := hookX 4 hfa hfn hxb) (ob := hob) (M := 4000) (loose := hloose) (d := HandSHeadRun.topDef (OpenLaw.row PySem.Challenge.rw_fairbook_k22_whole_best_first).prog 41) (kwd := []) hob_eq
    (by kernel_rfl) (fun s => by kernel_rfl) hrun (by kernel_rfl) (by kernel_rfl) (by kernel_rfl) (by rfl) (by first | assumption | decide +kernel) (by decide +kernel) ⟨rfl, rfl, rfl, rfl, rfl, by decide +kernel⟩ ?hw ?hc
  case hw => w_witness2
  case hc =>
    refine L2.walk_ofE (l := PySem.Challenge.rw_fairbook_k22_whole_best_first) (n := 63) (k := 7) (x := "_law_script") (CX := L2.CX0) rfl (by decide) (by kernel_rfl) ⟨rfl, by decide, by decide⟩ ?F (fun _ _ _ _ z => z)
    intro w mg fa h Y G hmg0
    obtain ⟨K, KX, c, cx⟩ := Y
    have T : Tx K mg := tx_of KX G c cx
    have hmg : mg ("law" : PySem.Str) = some (.ref fa) := by
      have e : (HandSHeadRun.topDef (OpenLaw.row PySem.Challenge.rw_fairbook_k22_whole_best_first).prog 41).name = ("law" : PySem.Str) := by kernel_rfl
      rw [← e]
      exact hmg0
    have e := hmg.symm.trans T.g_law
    cases e
    obtain ⟨fd, _, FDl, hF⟩ := w_law (P := (PySem.Challenge.rw_fairbook_k22_whole_best_first).prog) (w := w) T
    have b := L2.FunD.bindsA (ps := ["_law_script"]) FDl fun _ _ _ _ _ _ us hl => match us, hl with | [_], _ => rfl
    exact ⟨K, fd, spLaw K, KX, fun s v => b s [v] rfl, fun H a ns hl _ hS => ⟨a, ns, rfl, hl, hS, fun _ => rfl⟩, fun base _ _ => hF base⟩

