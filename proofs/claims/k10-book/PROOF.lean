import PyProof.Rows.All
import PyProof.MaxThree
import Wide.All
import OpenK.AllK
import Wide.FinOn
import KE.KStateDown
import KE.KIsAll
import KE.SortData
import KE.SortKeyHeap
import KE.SortLaws
import HandS.Base
import HandS.Call
import HandS.List
import HandS.Comp
import HandS.Ends
import HandS.Dict
import HandS.Iter
import HandS.Words
import HandS.WordsList
import HandS.WordsDict
import HandS.WordsExc
import HandS.Exc
import HandS.ExcOwn
import HandS.ExcIs
import HandS.TryOnly
import HandS.Flow
import HandS.IsInst
import HandS.Small
import HandS.SortKw
import HandS.Defaults
import HandS.Head0
import HandS.Head1
import HandS.Head2
import HandS.HeadEnd
import HandS.HeadHook1
import HandS.HeadHook2
import PySem.Challenge.RW_fairbook_k10_book
import KE.DataMinMax
set_option Elab.async false
set_option linter.all false
/-! The program fairbook as plain Lean functions over lists. -/
set_option autoImplicit false
namespace FB

/-- an order; ad: where its object stands (it plays no part in what is reckoned) -/
structure Ord where
  ad : Nat
  num : Int
  own : Int
  buy : Bool
  price : Option Int
  rest : Int
  shows : Option Int
  part : Int
  place : Int
deriving DecidableEq

/-- the book; ords in the order of the dict -/
structure Bk where
  ords : List Ord
  many : Int
  places : Int
  last : Option Int
  traded : Int
  calling : Bool

/-- what is told of an order that came -/
inductive Ev where
  | trade (num price many : Int)
  | out (num : Int)
deriving DecidableEq

def Ord.pr (o : Ord) : Int := o.price.getD 0
def imin (i j : Int) : Int := if j < i then j else i
def Ord.shown (o : Ord) : Int := match o.shows with
  | none => o.rest
  | some s => imin s o.rest
def Ord.show (o : Ord) : Ord := { o with part := o.shown }
def Ord.suits (o : Ord) (p : Int) : Bool := match o.price with
  | none => true
  | some q => if o.buy then decide (p ≤ q) else decide (q ≤ p)
def Ord.k1 (o : Ord) : Int := if o.buy then -o.pr else o.pr
def Lt3 (a b : Ord) : Prop := a.k1 < b.k1 ∨ (a.k1 = b.k1 ∧ (a.place < b.place ∨ (a.place = b.place ∧ a.num < b.num)))
instance (a b : Ord) : Decidable (Lt3 a b) := by unfold Lt3; infer_instance
def leO (a b : Ord) : Bool := !decide (Lt3 b a)
def row (os : List Ord) (side : Bool) : List Ord := (os.filter fun o => o.buy == side).mergeSort leO

/-! ### the dict of orders -/
def putO (os : List Ord) (o : Ord) : List Ord :=
  if (os.any fun x => decide (x.num = o.num)) = true then os.map (fun x => if x.num = o.num then o else x) else os ++ [o]
def dropO (os : List Ord) (n : Int) : List Ord := os.filter fun x => decide (x.num ≠ n)
def updO (os : List Ord) (o : Ord) : List Ord := os.map fun x => if x.num = o.num then o else x
def findO (os : List Ord) (n : Int) : Option Ord := os.find? fun x => decide (x.num = n)

def Bk.put (B : Bk) (o : Ord) : Bk :=
  { B with places := B.places + 1, ords := putO B.ords ({ o with place := B.places + 1 } : Ord).show }

/-! ### an order comes -/
/-- how many are traded with one -/
def cut (o one : Ord) : Int := imin o.rest one.part
def afterMeet (B : Bk) (o one : Ord) : Bk :=
  let m := cut o one
  let one' : Ord := { one with rest := one.rest - m, part := one.part - m }
  let B1 : Bk := { B with last := some one.pr, traded := B.traded + m }
  if one'.rest = 0 then { B1 with ords := dropO B1.ords one.num }
  else if one'.part = 0 then B1.put one'
  else { B1 with ords := updO B1.ords one' }
def afterMeetO (o one : Ord) : Ord := { o with rest := o.rest - cut o one }
def step1 (s : Bk × Ord) : Option (Ev × (Bk × Ord)) :=
  if 0 < s.2.rest then
    match row s.1.ords (!s.2.buy) with
    | [] => none
    | one :: _ =>
      if s.2.suits one.pr = true then
        if one.own = s.2.own then some (.out one.num, ({ s.1 with ords := dropO s.1.ords one.num }, s.2))
        else some (.trade one.num one.pr (cut s.2 one), (afterMeet s.1 s.2 one, afterMeetO s.2 one))
      else none
  else none
/-- steps till there is none, at most n -/
def iter {S E : Type} (step : S → Option (E × S)) : Nat → S → List E × S
  | 0, s => ([], s)
  | n + 1, s => match step s with
    | none => ([], s)
    | some (e, s1) => (e :: (iter step n s1).1, (iter step n s1).2)
def mu1 (s : Bk × Ord) : Nat := s.2.rest.toNat + s.1.ords.length
def matchAll (s : Bk × Ord) : List Ev × (Bk × Ord) := iter step1 (mu1 s) s

def there (os : List Ord) (o : Ord) : Int :=
  (((row os (!o.buy)).filter fun x => o.suits x.pr && decide (x.own ≠ o.own)).map (·.rest)).sum
def canFill (os : List Ord) (o : Ord) : Bool := decide (o.rest ≤ there os o)

def goodSide (z : PySem.Str) : Bool := decide (z = ("buy" : PySem.Str)) || decide (z = ("sell" : PySem.Str))
def goodWay (z : PySem.Str) : Bool := decide (z = ("rest" : PySem.Str)) || (decide (z = ("now" : PySem.Str)) || decide (z = ("whole" : PySem.Str)))
def isCount (n : Int) : Bool := decide (1 ≤ n) && decide (n ≤ 10000)
/-- what look_order lets pass -/
def goodO (side : PySem.Str) (price : Option Int) (many : Int) (shows : Option Int) (way : PySem.Str) : Bool :=
  goodSide side && goodWay way && isCount many
  && (match price with
      | none => !decide (way = ("rest" : PySem.Str))
      | some p => decide (1 ≤ p) && decide (p ≤ 1000000000))
  && (match shows with
      | none => true
      | some s => decide (way = ("rest" : PySem.Str)) && (decide (1 ≤ s) && decide (s ≤ many)))

def newOrd (B : Bk) (ad : Nat) (owner : Int) (buy : Bool) (price : Option Int) (many : Int) (shows : Option Int) : Ord :=
  { ad := ad, num := B.many, own := owner, buy := buy, price := price, rest := many, shows := shows, part := 0, place := 0 }
inductive Way where
  | rest | now | whole
deriving DecidableEq
def Way.str : Way → PySem.Str
  | .rest => "rest"
  | .now => "now"
  | .whole => "whole"
def sideStr (b : Bool) : PySem.Str := if b then "buy" else "sell"
/-- an order that is one, where it may come -/
def placeB (B : Bk) (o : Ord) (way : Way) : List Ev × Bk :=
  let B1 : Bk := { B with many := B.many + 1 }
  let r : List Ev × (Bk × Ord) := if !B.calling && (decide (way ≠ .whole) || canFill B1.ords o) then matchAll (B1, o) else ([], (B1, o))
  (r.1, if way = .rest ∧ 0 < r.2.2.rest then r.2.1.put r.2.2 else r.2.1)

def cancelB (B : Bk) (n : Int) : Bk := { B with ords := dropO B.ords n }
def changeB (B : Bk) (o : Ord) (m : Int) : Bk :=
  if o.rest < m then ({ B with ords := updO B.ords { o with rest := m } }).put { o with rest := m }
  else { B with ords := updO B.ords { o with rest := m, part := imin o.part m } }

/-! ### calls -/
def wanted (os : List Ord) (side : Bool) (p : Int) : Int := (((row os side).filter fun o => o.suits p).map (·.rest)).sum
def iabs (i : Int) : Int := if i < 0 then -i else i
def rank (os : List Ord) (last : Option Int) (p : Int) : List Int :=
  [-imin (wanted os true p) (wanted os false p), iabs (wanted os true p - wanted os false p),
   (match last with | none => 0 | some l => iabs (p - l)), p]
def ltL : List Int → List Int → Bool
  | [], [] => false
  | [], _ :: _ => true
  | _ :: _, [] => false
  | x :: xs, y :: ys => if x = y then ltL xs ys else decide (x < y)
def better (best : Option (List Int)) (r : List Int) : Option (List Int) := match best with
  | none => some r
  | some b => if ltL r b then some r else some b
def bestOf (os : List Ord) (last : Option Int) : Option (List Int) := (os.map fun o => rank os last o.pr).foldl better none
def callPrice (os : List Ord) (last : Option Int) : Option (Int × Int) := match bestOf os last with
  | some [a, _, _, p] => if a = 0 then none else some (p, -a)
  | _ => none

/-- a trade of a call -/
structure CTr where
  b : Int
  s : Int
  p : Int
  m : Int
deriving DecidableEq
structure US where
  left : Int
  buys : List Ord
  sells : List Ord
  B : Bk
def least3 (x y z : Int) : Int := imin (imin x y) z
def lessen (o : Ord) (m : Int) : Ord := ({ o with rest := o.rest - m } : Ord).show
def takeOff (os : List Ord) (o : Ord) : List Ord := if o.rest = 0 then dropO os o.num else updO os o
def liveO (os : List Ord) : List Ord := os.filter fun o => decide (0 < o.rest)
def ustep (p : Int) (u : US) : Option (CTr × US) :=
  if 0 < u.left then
    match u.buys, u.sells with
    | b :: bs, s :: ss =>
      let m := least3 u.left b.rest s.rest
      some (⟨b.num, s.num, p, m⟩,
        { left := u.left - m, buys := liveO (lessen b m :: bs), sells := liveO (lessen s m :: ss),
          B := { u.B with last := some p, traded := u.B.traded + m, ords := takeOff (takeOff u.B.ords (lessen b m)) (lessen s m) } })
    | _, _ => none
  else none
def muU (u : US) : Nat := u.left.toNat
def uncrossB (B : Bk) : List CTr × Bk := match callPrice B.ords B.last with
  | none => ([], { B with calling := false })
  | some (p, n) =>
    let r := iter (ustep p) n.toNat { left := n, buys := row B.ords true, sells := row B.ords false, B := { B with calling := false } }
    (r.1, r.2.B)

/-! ### what the book tells -/
def resting (os : List Ord) (side : Bool) : List Int := (row os side).map (·.num)
def depthStep (acc : List (Int × Int)) (o : Ord) : List (Int × Int) := match acc.getLast? with
  | some (p, m) => if p = o.pr then acc.dropLast ++ [(p, m + o.part)] else acc ++ [(o.pr, o.part)]
  | none => acc ++ [(o.pr, o.part)]
def depth (os : List Ord) (side : Bool) : List (Int × Int) := (row os side).foldl depthStep []
def crossed (os : List Ord) : Bool := match row os true, row os false with
  | b :: _, s :: _ => decide (s.pr ≤ b.pr)
  | _, _ => false
end FB

set_option autoImplicit false
/-! Plain laws of the mirror: what holds of every book. -/
namespace FB

/-! ### lists of orders -/
theorem updO_none {os : List Ord} {o : Ord} (h : ∀ x ∈ os, x.num ≠ o.num) : updO os o = os := by
  unfold updO
  exact (List.map_congr_left (g := id) (fun x hx => if_neg (h x hx))).trans (List.map_id _)
theorem updO_upd {os : List Ord} {o1 o2 : Ord} (h : o1.num = o2.num) : updO (updO os o1) o2 = updO os o2 := by
  unfold updO
  rw [List.map_map]
  refine List.map_congr_left fun x hx => ?_
  show (if (if x.num = o1.num then o1 else x).num = o2.num then o2 else (if x.num = o1.num then o1 else x)) = _
  by_cases e : x.num = o1.num
  · rw [if_pos e, if_pos h, if_pos (e.trans h)]
  · rw [if_neg e]
theorem updO_self {os : List Ord} {o : Ord} : updO (updO os o) o = updO os o := updO_upd rfl
theorem updO_num {os : List Ord} {o : Ord} : (updO os o).map (·.num) = os.map (·.num) := by
  unfold updO
  rw [List.map_map]
  refine List.map_congr_left fun x hx => ?_
  show (if x.num = o.num then o else x).num = x.num
  by_cases e : x.num = o.num
  · rw [if_pos e, e]
  · rw [if_neg e]
theorem updO_len {os : List Ord} {o : Ord} : (updO os o).length = os.length := by
  unfold updO
  rw [List.length_map]
theorem mem_updO {os : List Ord} {o x : Ord} (h : x ∈ updO os o) : (x = o ∧ ∃ y ∈ os, y.num = o.num) ∨ (x ∈ os ∧ x.num ≠ o.num) := by
  unfold updO at h
  obtain ⟨y, hy, e⟩ := List.mem_map.mp h
  by_cases q : y.num = o.num
  · rw [if_pos q] at e
    exact .inl ⟨e.symm, y, hy, q⟩
  · rw [if_neg q] at e
    subst e
    exact .inr ⟨hy, q⟩
theorem mem_upd {os : List Ord} {o' : Ord} (h : ∃ x ∈ os, x.num = o'.num) : o' ∈ updO os o' := by
  obtain ⟨x, hx, e⟩ := h
  unfold updO
  exact List.mem_map.mpr ⟨x, hx, if_pos e⟩
theorem mem_upd_other {os : List Ord} {o x : Ord} (h : x ∈ os) (n : x.num ≠ o.num) : x ∈ updO os o := by
  unfold updO
  exact List.mem_map.mpr ⟨x, h, if_neg n⟩
theorem putO_there {os : List Ord} {o : Ord} (h : ∃ x ∈ os, x.num = o.num) : putO os o = updO os o := by
  unfold putO updO
  rw [if_pos]
  obtain ⟨x, hx, e⟩ := h
  exact List.any_eq_true.mpr ⟨x, hx, decide_eq_true e⟩
theorem putO_new {os : List Ord} {o : Ord} (h : ∀ x ∈ os, x.num ≠ o.num) : putO os o = os ++ [o] := by
  unfold putO
  rw [if_neg]
  intro z
  obtain ⟨x, hx, e⟩ := List.any_eq_true.mp z
  exact h x hx (of_decide_eq_true e)
theorem putO_upd {os : List Ord} {o1 o : Ord} (h : o1.num = o.num) : putO (updO os o1) o = putO os o := by
  by_cases q : ∃ x ∈ os, x.num = o.num
  · rw [putO_there ⟨o1, mem_upd (h ▸ q), h⟩, updO_upd h, putO_there q]
  · rw [updO_none fun x hx e => q ⟨x, hx, e.trans h⟩]
theorem putO_updO (os : List Ord) (o : Ord) : putO (updO os o) o = putO os o := putO_upd rfl
theorem mem_putO {os : List Ord} {o x : Ord} (h : x ∈ putO os o) : x = o ∨ (x ∈ os ∧ x.num ≠ o.num) := by
  by_cases q : ∃ y ∈ os, y.num = o.num
  · rw [putO_there q] at h
    rcases mem_updO h with ⟨e, _⟩ | h
    · exact .inl e
    · exact .inr h
  · rw [putO_new fun y hy e => q ⟨y, hy, e⟩] at h
    rcases List.mem_append.mp h with h | h
    · exact .inr ⟨h, fun e => q ⟨x, h, e⟩⟩
    · exact .inl (List.mem_singleton.mp h)
theorem mem_put_self (os : List Ord) (o : Ord) : o ∈ putO os o := by
  by_cases q : ∃ y ∈ os, y.num = o.num
  · rw [putO_there q]
    exact mem_upd q
  · rw [putO_new fun y hy e => q ⟨y, hy, e⟩]
    exact List.mem_append_right _ List.mem_cons_self
theorem mem_put_other {os : List Ord} {o x : Ord} (h : x ∈ os) (n : x.num ≠ o.num) : x ∈ putO os o := by
  by_cases q : ∃ y ∈ os, y.num = o.num
  · rw [putO_there q]
    exact mem_upd_other h n
  · rw [putO_new fun y hy e => q ⟨y, hy, e⟩]
    exact List.mem_append_left _ h
theorem putO_len (os : List Ord) (o : Ord) : (putO os o).length ≤ os.length + 1 := by
  by_cases q : ∃ y ∈ os, y.num = o.num
  · rw [putO_there q, updO_len]
    omega
  · rw [putO_new fun y hy e => q ⟨y, hy, e⟩]
    simp
theorem putO_len_there {os : List Ord} {o : Ord} (h : ∃ x ∈ os, x.num = o.num) : (putO os o).length = os.length := by rw [putO_there h, updO_len]
theorem mem_dropO {os : List Ord} {n : Int} {x : Ord} : x ∈ dropO os n ↔ x ∈ os ∧ x.num ≠ n := by
  unfold dropO
  rw [List.mem_filter]
  simp
theorem dropO_upd {os : List Ord} {o : Ord} {n : Int} (h : o.num = n) : dropO (updO os o) n = dropO os n := by
  induction os with
  | nil => rfl
  | cons a r ih =>
    have e1 : updO (a :: r) o = (if a.num = o.num then o else a) :: updO r o := rfl
    have e2 : ∀ (b : Ord) (l : List Ord), dropO (b :: l) n = if b.num ≠ n then b :: dropO l n else dropO l n := fun b l => by
      unfold dropO
      rw [List.filter_cons]
      simp
    rw [e1, e2, e2, ih]
    by_cases q : a.num = o.num
    · rw [if_pos q, if_neg (fun z => z h), if_neg (fun z => z (q.trans h))]
    · rw [if_neg q]
theorem nodup_inj {α β : Type} {f : α → β} : ∀ {l : List α}, (l.map f).Nodup → ∀ {x y : α}, x ∈ l → y ∈ l → f x = f y → x = y
  | [], _, _, _, h, _, _ => nomatch h
  | a :: l, hn, x, y, hx, hy, e => by
    rw [List.map_cons, List.nodup_cons] at hn
    rcases List.mem_cons.mp hx with ex | hx'
    · rcases List.mem_cons.mp hy with ey | hy'
      · rw [ex, ey]
      · exact absurd (List.mem_map.mpr ⟨y, hy', by rw [← e, ex]⟩) hn.1
    · rcases List.mem_cons.mp hy with ey | hy'
      · exact absurd (List.mem_map.mpr ⟨x, hx', by rw [e, ey]⟩) hn.1
      · exact nodup_inj hn.2 hx' hy' e
theorem nodup_updO {β : Type} {f : Ord → β} : ∀ {os : List Ord} {o : Ord}, (os.map (·.num)).Nodup → (os.map f).Nodup → (∀ x ∈ os, x.num ≠ o.num → f x ≠ f o) → ((updO os o).map f).Nodup
  | [], _, _, _, _ => List.nodup_nil
  | a :: r, o, h1, h2, h3 => by
    have e1 : updO (a :: r) o = (if a.num = o.num then o else a) :: updO r o := rfl
    rw [List.map_cons, List.nodup_cons] at h1 h2
    rw [e1, List.map_cons, List.nodup_cons]
    refine ⟨?_, nodup_updO h1.2 h2.2 fun x hx => h3 x (List.mem_cons_of_mem _ hx)⟩
    by_cases q : a.num = o.num
    · rw [if_pos q]
      intro z
      obtain ⟨x, hx, e⟩ := List.mem_map.mp z
      have hr : ∀ x ∈ r, x.num ≠ o.num := fun x hx e => h1.1 (List.mem_map.mpr ⟨x, hx, e.trans q.symm⟩)
      rw [updO_none hr] at hx
      exact h3 x (List.mem_cons_of_mem _ hx) (hr x hx) e
    · rw [if_neg q]
      intro z
      obtain ⟨x, hx, e⟩ := List.mem_map.mp z
      rcases mem_updO hx with ⟨ex, _⟩ | ⟨hx, _⟩
      · rw [ex] at e
        exact h3 a List.mem_cons_self q e.symm
      · exact h2.1 (List.mem_map.mpr ⟨x, hx, e⟩)
theorem nodup_putO {β : Type} {f : Ord → β} {os : List Ord} {o : Ord} (h1 : (os.map (·.num)).Nodup) (h2 : (os.map f).Nodup) (h3 : ∀ x ∈ os, x.num ≠ o.num → f x ≠ f o) : ((putO os o).map f).Nodup := by
  by_cases q : ∃ y ∈ os, y.num = o.num
  · rw [putO_there q]
    exact nodup_updO h1 h2 h3
  · have q' : ∀ x ∈ os, x.num ≠ o.num := fun y hy e => q ⟨y, hy, e⟩
    rw [putO_new q', List.map_append, List.nodup_append]
    refine ⟨h2, by simp, fun a ha b hb e => ?_⟩
    obtain ⟨x, hx, ex⟩ := List.mem_map.mp ha
    have eb : b = f o := by simpa using hb
    exact h3 x hx (q' x hx) (ex.trans (e.trans eb))
theorem nodup_dropO {β : Type} {f : Ord → β} {os : List Ord} {n : Int} (h : (os.map f).Nodup) : ((dropO os n).map f).Nodup := h.sublist ((List.filter_sublist).map _)
theorem dropO_len {os : List Ord} {n : Int} (h : ∃ x ∈ os, x.num = n) : (dropO os n).length < os.length := by
  obtain ⟨x, hx, e⟩ := h
  unfold dropO
  refine Nat.lt_of_le_of_ne (List.length_filter_le _ _) fun z => ?_
  have := List.length_filter_eq_length_iff.mp z x hx
  simp [e] at this
theorem row_mem {os : List Ord} {side : Bool} {o : Ord} : o ∈ row os side ↔ o ∈ os ∧ o.buy = side := by
  unfold row
  rw [List.mem_mergeSort, List.mem_filter]
  simp
theorem row_len (os : List Ord) (side : Bool) : (row os side).length ≤ os.length := by
  unfold row
  rw [List.length_mergeSort]
  exact List.length_filter_le _ _

/-! ### what holds of every order that rests, of every book -/
structure OrdOk (many places : Int) (o : Ord) : Prop where
  price : o.price = some o.pr
  prb : 1 ≤ o.pr
  rest : 1 ≤ o.rest
  rmax : o.rest ≤ 10000
  part : 1 ≤ o.part
  ple : o.part ≤ o.rest
  shows : ∀ s, o.shows = some s → 1 ≤ s
  num0 : 0 ≤ o.num
  num : o.num < many
  pl0 : 1 ≤ o.place
  pl : o.place ≤ places
structure BkOk (B : Bk) : Prop where
  os : ∀ o ∈ B.ords, OrdOk B.many B.places o
  ndn : (B.ords.map (·.num)).Nodup
  ndp : (B.ords.map (·.place)).Nodup
  many0 : 0 ≤ B.many
  places0 : 0 ≤ B.places
theorem imin_le_l (i j : Int) : imin i j ≤ i := by unfold imin; split <;> omega
theorem imin_le_r (i j : Int) : imin i j ≤ j := by unfold imin; split <;> omega
theorem imin_or (i j : Int) : imin i j = i ∨ imin i j = j := by unfold imin; split <;> simp
theorem shown_ok {o : Ord} (hr : 1 ≤ o.rest) (hs : ∀ s, o.shows = some s → 1 ≤ s) : 1 ≤ o.shown ∧ o.shown ≤ o.rest := by
  unfold Ord.shown
  cases e : o.shows with
  | none => exact ⟨hr, Int.le_refl _⟩
  | some s =>
    have h1 := hs s e
    have h2 := imin_le_r s o.rest
    have h3 := imin_or s o.rest
    show 1 ≤ imin s o.rest ∧ imin s o.rest ≤ o.rest
    omega
/-- what an order must be to be put into the book -/
structure MayRest (many : Int) (o : Ord) : Prop where
  price : o.price = some o.pr
  prb : 1 ≤ o.pr
  rest : 1 ≤ o.rest
  rmax : o.rest ≤ 10000
  shows : ∀ s, o.shows = some s → 1 ≤ s
  num0 : 0 ≤ o.num
  num : o.num < many
theorem OrdOk.may {many places : Int} {o : Ord} (h : OrdOk many places o) : MayRest many o := ⟨h.price, h.prb, h.rest, h.rmax, h.shows, h.num0, h.num⟩
theorem put_ok {B : Bk} {o : Ord} (h : BkOk B) (m : MayRest B.many o) : BkOk (B.put o) := by
  have hsh : 1 ≤ ({ o with place := B.places + 1 } : Ord).shown ∧ ({ o with place := B.places + 1 } : Ord).shown ≤ o.rest := shown_ok (o := { o with place := B.places + 1 }) m.rest m.shows
  have hp0 := h.places0
  refine ⟨fun x hx => ?_, ?_, ?_, h.many0, by show 0 ≤ B.places + 1; omega⟩
  · have hx : x ∈ putO B.ords ({ o with place := B.places + 1 } : Ord).show := hx
    rcases mem_putO hx with e | ⟨hx, _⟩
    · rw [e]
      exact ⟨m.price, m.prb, m.rest, m.rmax, hsh.1, hsh.2, m.shows, m.num0, m.num, by show 1 ≤ B.places + 1; omega, Int.le_refl _⟩
    · have q := h.os x hx
      exact ⟨q.price, q.prb, q.rest, q.rmax, q.part, q.ple, q.shows, q.num0, q.num, q.pl0, by have := q.pl; show x.place ≤ B.places + 1; omega⟩
  · exact nodup_putO (o := ({ o with place := B.places + 1 } : Ord).show) h.ndn h.ndn fun x _ n => n
  · refine nodup_putO (o := ({ o with place := B.places + 1 } : Ord).show) h.ndn h.ndp fun x hx _ e => ?_
    have q := (h.os x hx).pl
    have e : x.place = B.places + 1 := e
    omega
theorem put_upd (B : Bk) {o1 o : Ord} (h : o1.num = o.num) : ({ B with ords := updO B.ords o1 } : Bk).put o = B.put o := by
  unfold Bk.put
  show ({ B with places := B.places + 1, ords := putO (updO B.ords o1) ({ o with place := B.places + 1 } : Ord).show } : Bk) = _
  rw [putO_upd (os := B.ords) (o1 := o1) (o := ({ o with place := B.places + 1 } : Ord).show) h]
theorem drop_ok {B : Bk} (h : BkOk B) (n : Int) : BkOk { B with ords := dropO B.ords n } :=
  ⟨fun x hx => h.os x (mem_dropO.mp hx).1, nodup_dropO h.ndn, nodup_dropO h.ndp, h.many0, h.places0⟩
theorem upd_ok {B : Bk} (h : BkOk B) {o o' : Ord} (ho : o ∈ B.ords) (en : o'.num = o.num) (ep : o'.place = o.place) (ok : OrdOk B.many B.places o') : BkOk { B with ords := updO B.ords o' } := by
  refine ⟨fun x hx => ?_, ?_, ?_, h.many0, h.places0⟩
  · rcases mem_updO hx with ⟨e, _⟩ | ⟨hx, _⟩
    · rw [e]
      exact ok
    · exact h.os x hx
  · show ((updO B.ords o').map (·.num)).Nodup
    rw [updO_num]
    exact h.ndn
  · refine nodup_updO h.ndn h.ndp fun x hx n e => n ?_
    rw [en, nodup_inj h.ndp hx ho (e.trans ep)]
theorem tell_ok {B : Bk} (h : BkOk B) (l : Option Int) (t : Int) : BkOk { B with last := l, traded := t } := ⟨h.os, h.ndn, h.ndp, h.many0, h.places0⟩
theorem calling_ok {B : Bk} (h : BkOk B) (c : Bool) : BkOk { B with calling := c } := ⟨h.os, h.ndn, h.ndp, h.many0, h.places0⟩
theorem many_ok {B : Bk} (h : BkOk B) : BkOk { B with many := B.many + 1 } :=
  ⟨fun x hx => by
    have q := h.os x hx
    exact ⟨q.price, q.prb, q.rest, q.rmax, q.part, q.ple, q.shows, q.num0, by have := q.num; show x.num < B.many + 1; omega, q.pl0, q.pl⟩, h.ndn, h.ndp, by have := h.many0; show 0 ≤ B.many + 1; omega, h.places0⟩

/-! ### one step of an order that comes -/
/-- what never changes of an order -/
structure Like (x y : Ord) : Prop where
  ad : x.ad = y.ad
  num : x.num = y.num
  own : x.own = y.own
  buy : x.buy = y.buy
  price : x.price = y.price
  shows : x.shows = y.shows
theorem Like.refl (x : Ord) : Like x x := ⟨rfl, rfl, rfl, rfl, rfl, rfl⟩
theorem Like.trans {x y z : Ord} (a : Like x y) (b : Like y z) : Like x z := ⟨a.ad.trans b.ad, a.num.trans b.num, a.own.trans b.own, a.buy.trans b.buy, a.price.trans b.price, a.shows.trans b.shows⟩
theorem Like.symm {x y : Ord} (a : Like x y) : Like y x := ⟨a.ad.symm, a.num.symm, a.own.symm, a.buy.symm, a.price.symm, a.shows.symm⟩
theorem Like.pr {x y : Ord} (a : Like x y) : x.pr = y.pr := by unfold Ord.pr; rw [a.price]
/-- each of these is like one of those, with no more left -/
def Within (os' os : List Ord) : Prop := ∀ x ∈ os', ∃ y ∈ os, Like x y ∧ x.rest ≤ y.rest
theorem Within.refl (os : List Ord) : Within os os := fun x hx => ⟨x, hx, Like.refl x, Int.le_refl _⟩
theorem Within.trans {a b c : List Ord} (h : Within a b) (k : Within b c) : Within a c := fun x hx => by
  obtain ⟨y, hy, l, e⟩ := h x hx
  obtain ⟨z, hz, l2, e2⟩ := k y hy
  exact ⟨z, hz, l.trans l2, Int.le_trans e e2⟩
theorem within_drop (os : List Ord) (n : Int) : Within (dropO os n) os := fun x hx => ⟨x, (mem_dropO.mp hx).1, Like.refl x, Int.le_refl _⟩
theorem within_upd {os : List Ord} {o o' : Ord} (ho : o ∈ os) (l : Like o' o) (hr : o'.rest ≤ o.rest) : Within (updO os o') os := fun x hx => by
  rcases mem_updO hx with ⟨e, _⟩ | ⟨hx, _⟩
  · exact ⟨o, ho, by rw [e]; exact l, by rw [e]; exact hr⟩
  · exact ⟨x, hx, Like.refl x, Int.le_refl _⟩
theorem within_put {os : List Ord} {o o' : Ord} (ho : o ∈ os) (l : Like o' o) (hr : o'.rest ≤ o.rest) : Within (putO os o') os := fun x hx => by
  rcases mem_putO hx with e | ⟨hx, _⟩
  · exact ⟨o, ho, by rw [e]; exact l, by rw [e]; exact hr⟩
  · exact ⟨x, hx, Like.refl x, Int.le_refl _⟩
theorem cut_pos {o one : Ord} (h1 : 0 < o.rest) (h2 : 1 ≤ one.part) : 1 ≤ cut o one ∧ cut o one ≤ o.rest ∧ cut o one ≤ one.part := by
  unfold cut
  have a := imin_le_l o.rest one.part
  have b := imin_le_r o.rest one.part
  have c := imin_or o.rest one.part
  omega
structure MeetOk (B : Bk) (one : Ord) (B' : Bk) : Prop where
  ok : BkOk B'
  within : Within B'.ords B.ords
  len : B'.ords.length ≤ B.ords.length
  many : B'.many = B.many
  calling : B'.calling = B.calling
theorem meet_ok {B : Bk} {o one : Ord} (h : BkOk B) (ho : one ∈ B.ords) (h1 : 0 < o.rest) : MeetOk B one (afterMeet B o one) := by
  have q := h.os one ho
  have hc := cut_pos h1 q.part
  have hpl := q.ple
  have hpt := tell_ok h (some one.pr) (B.traded + cut o one)
  have hl : Like ({ one with rest := one.rest - cut o one, part := one.part - cut o one } : Ord) one := ⟨rfl, rfl, rfl, rfl, rfl, rfl⟩
  have hr : ({ one with rest := one.rest - cut o one, part := one.part - cut o one } : Ord).rest ≤ one.rest := by show one.rest - cut o one ≤ one.rest; omega
  unfold afterMeet
  show MeetOk B one (if one.rest - cut o one = 0 then _ else if one.part - cut o one = 0 then _ else _)
  by_cases e1 : one.rest - cut o one = 0
  · rw [if_pos e1]
    exact ⟨drop_ok hpt one.num, within_drop _ _, Nat.le_of_lt (dropO_len ⟨one, ho, rfl⟩), rfl, rfl⟩
  · rw [if_neg e1]
    by_cases e2 : one.part - cut o one = 0
    · rw [if_pos e2]
      refine ⟨put_ok hpt ⟨q.price, q.prb, by show 1 ≤ one.rest - cut o one; omega, by have := q.rmax; show one.rest - cut o one ≤ 10000; omega, q.shows, q.num0, q.num⟩, ?_, ?_, rfl, rfl⟩
      · exact within_put (o' := ({ one with rest := one.rest - cut o one, part := one.part - cut o one, place := B.places + 1 } : Ord).show) ho ⟨rfl, rfl, rfl, rfl, rfl, rfl⟩ (by show one.rest - cut o one ≤ one.rest; omega)
      · exact Nat.le_of_eq (putO_len_there (o := ({ one with rest := one.rest - cut o one, part := one.part - cut o one, place := B.places + 1 } : Ord).show) ⟨one, ho, rfl⟩)
    · rw [if_neg e2]
      refine ⟨upd_ok hpt ho rfl rfl ⟨q.price, q.prb, by show 1 ≤ one.rest - cut o one; omega, by have := q.rmax; show one.rest - cut o one ≤ 10000; omega, by show 1 ≤ one.part - cut o one; omega, by show one.part - cut o one ≤ one.rest - cut o one; omega, q.shows, q.num0, q.num, q.pl0, q.pl⟩, within_upd ho hl hr, Nat.le_of_eq updO_len, rfl, rfl⟩
structure StepOk (s s' : Bk × Ord) : Prop where
  ok : BkOk s'.1
  within : Within s'.1.ords s.1.ords
  len : s'.1.ords.length ≤ s.1.ords.length
  many : s'.1.many = s.1.many
  calling : s'.1.calling = s.1.calling
  like : Like s'.2 s.2
  rest0 : 0 ≤ s'.2.rest
  rest : s'.2.rest ≤ s.2.rest
  mu : mu1 s' < mu1 s
theorem step_cases {s : Bk × Ord} {e : Ev} {s' : Bk × Ord} (h : step1 s = some (e, s')) : ∃ one rest, 0 < s.2.rest ∧ row s.1.ords (!s.2.buy) = one :: rest ∧ s.2.suits one.pr = true ∧
    ((one.own = s.2.own ∧ e = .out one.num ∧ s' = ({ s.1 with ords := dropO s.1.ords one.num }, s.2)) ∨
     (one.own ≠ s.2.own ∧ e = .trade one.num one.pr (cut s.2 one) ∧ s' = (afterMeet s.1 s.2 one, afterMeetO s.2 one))) := by
  unfold step1 at h
  by_cases h0 : 0 < s.2.rest
  · rw [if_pos h0] at h
    cases er : row s.1.ords (!s.2.buy) with
    | nil =>
      rw [er] at h
      cases h
    | cons one rest =>
      rw [er] at h
      have h : (if s.2.suits one.pr = true then if one.own = s.2.own then some (Ev.out one.num, ({ s.1 with ords := dropO s.1.ords one.num }, s.2)) else some (Ev.trade one.num one.pr (cut s.2 one), (afterMeet s.1 s.2 one, afterMeetO s.2 one)) else none) = some (e, s') := h
      by_cases hs : s.2.suits one.pr = true
      · rw [if_pos hs] at h
        refine ⟨one, rest, h0, rfl, hs, ?_⟩
        by_cases ho : one.own = s.2.own
        · rw [if_pos ho] at h
          have := Option.some.inj h
          exact .inl ⟨ho, (congrArg Prod.fst this).symm, (congrArg Prod.snd this).symm⟩
        · rw [if_neg ho] at h
          have := Option.some.inj h
          exact .inr ⟨ho, (congrArg Prod.fst this).symm, (congrArg Prod.snd this).symm⟩
      · rw [if_neg hs] at h
        cases h
  · rw [if_neg h0] at h
    cases h
theorem step_stop0 {s : Bk × Ord} (h : ¬ 0 < s.2.rest) : step1 s = none := by
  unfold step1
  rw [if_neg h]
theorem step_stop1 {s : Bk × Ord} (h : row s.1.ords (!s.2.buy) = []) : step1 s = none := by
  unfold step1
  by_cases h0 : 0 < s.2.rest
  · rw [if_pos h0, h]
  · rw [if_neg h0]
theorem step_stop2 {s : Bk × Ord} {one : Ord} {r : List Ord} (h : row s.1.ords (!s.2.buy) = one :: r) (hs : s.2.suits one.pr = false) : step1 s = none := by
  unfold step1
  by_cases h0 : 0 < s.2.rest
  · rw [if_pos h0, h]
    show (if s.2.suits one.pr = true then _ else none) = none
    rw [hs]
    rfl
  · rw [if_neg h0]
theorem step_out {s : Bk × Ord} {one : Ord} {r : List Ord} (h0 : 0 < s.2.rest) (h : row s.1.ords (!s.2.buy) = one :: r) (hs : s.2.suits one.pr = true) (ho : one.own = s.2.own) :
    step1 s = some (.out one.num, ({ s.1 with ords := dropO s.1.ords one.num }, s.2)) := by
  unfold step1
  rw [if_pos h0, h]
  show (if s.2.suits one.pr = true then if one.own = s.2.own then _ else _ else none) = _
  rw [if_pos hs, if_pos ho]
theorem step_trade {s : Bk × Ord} {one : Ord} {r : List Ord} (h0 : 0 < s.2.rest) (h : row s.1.ords (!s.2.buy) = one :: r) (hs : s.2.suits one.pr = true) (ho : ¬ one.own = s.2.own) :
    step1 s = some (.trade one.num one.pr (cut s.2 one), (afterMeet s.1 s.2 one, afterMeetO s.2 one)) := by
  unfold step1
  rw [if_pos h0, h]
  show (if s.2.suits one.pr = true then if one.own = s.2.own then _ else _ else none) = _
  rw [if_pos hs, if_neg ho]
theorem step_ok {s : Bk × Ord} (hb : BkOk s.1) {e : Ev} {s' : Bk × Ord} (h : step1 s = some (e, s')) : StepOk s s' := by
  obtain ⟨one, rest, h0, er, hs, hc⟩ := step_cases h
  have ho : one ∈ s.1.ords := (row_mem.mp (by rw [er]; exact List.mem_cons_self)).1
  rcases hc with ⟨_, _, e'⟩ | ⟨_, _, e'⟩
  · have hl := dropO_len (os := s.1.ords) (n := one.num) ⟨one, ho, rfl⟩
    rw [e']
    refine ⟨drop_ok hb _, within_drop _ _, Nat.le_of_lt hl, rfl, rfl, Like.refl _, Int.le_of_lt h0, Int.le_refl _, ?_⟩
    show s.2.rest.toNat + (dropO s.1.ords one.num).length < s.2.rest.toNat + s.1.ords.length
    omega
  · have m := meet_ok (o := s.2) hb ho h0
    have hc := cut_pos h0 (hb.os one ho).part
    rw [e']
    refine ⟨m.ok, m.within, m.len, m.many, m.calling, ⟨rfl, rfl, rfl, rfl, rfl, rfl⟩, ?_, ?_, ?_⟩
    · show 0 ≤ s.2.rest - cut s.2 one
      omega
    · show s.2.rest - cut s.2 one ≤ s.2.rest
      omega
    · have := m.len
      show (s.2.rest - cut s.2 one).toNat + (afterMeet s.1 s.2 one).ords.length < s.2.rest.toNat + s.1.ords.length
      omega

/-! ### steps till there is none -/
theorem iter_fuel {S E : Type} {step : S → Option (E × S)} {I : S → Prop} {mu : S → Nat} (dec : ∀ s e s', I s → step s = some (e, s') → I s' ∧ mu s' < mu s) : ∀ (n m : Nat) (s : S), I s → mu s ≤ n → mu s ≤ m → iter step n s = iter step m s
  | 0, m, s, hI, hn, _ => by
    cases e : step s with
    | none =>
      cases m with
      | zero => rfl
      | succ m =>
        show ([], s) = _
        unfold iter
        rw [e]
    | some p =>
      have := (dec s p.1 p.2 hI (by rw [e])).2
      omega
  | n + 1, 0, s, hI, _, hm => by
    cases e : step s with
    | none =>
      show _ = ([], s)
      unfold iter
      rw [e]
    | some p =>
      have := (dec s p.1 p.2 hI (by rw [e])).2
      omega
  | n + 1, m + 1, s, hI, hn, hm => by
    cases e : step s with
    | none =>
      unfold iter
      rw [e]
    | some p =>
      obtain ⟨ev, s'⟩ := p
      obtain ⟨hI', hd⟩ := dec s ev s' hI e
      have ih := iter_fuel dec n m s' hI' (by omega) (by omega)
      unfold iter
      rw [e]
      show (ev :: (iter step n s').1, (iter step n s').2) = (ev :: (iter step m s').1, (iter step m s').2)
      rw [ih]
theorem iter_step {S E : Type} {step : S → Option (E × S)} {I : S → Prop} {mu : S → Nat} (dec : ∀ s e s', I s → step s = some (e, s') → I s' ∧ mu s' < mu s) {s s' : S} {e : E} (hI : I s) (h : step s = some (e, s')) :
    iter step (mu s) s = (e :: (iter step (mu s') s').1, (iter step (mu s') s').2) := by
  obtain ⟨hI', hd⟩ := dec s e s' hI h
  cases hm : mu s with
  | zero => omega
  | succ n =>
    have ih := iter_fuel dec n (mu s') s' hI' (by omega) (Nat.le_refl _)
    have e1 : iter step (n + 1) s = (match step s with | none => ([], s) | some (e, s1) => (e :: (iter step n s1).1, (iter step n s1).2)) := rfl
    rw [e1, h]
    show (e :: (iter step n s').1, (iter step n s').2) = _
    rw [ih]
theorem iter_none {S E : Type} {step : S → Option (E × S)} {s : S} (h : step s = none) (n : Nat) : iter step n s = ([], s) := by
  cases n with
  | zero => rfl
  | succ n =>
    unfold iter
    rw [h]
theorem match_step {s s' : Bk × Ord} {e : Ev} (hb : BkOk s.1) (h : step1 s = some (e, s')) : matchAll s = (e :: (matchAll s').1, (matchAll s').2) :=
  iter_step (I := fun s => BkOk s.1) (mu := mu1) (fun s e s' hI h => ⟨(step_ok hI h).ok, (step_ok hI h).mu⟩) hb h
theorem match_none {s : Bk × Ord} (h : step1 s = none) : matchAll s = ([], s) := iter_none h _
/-- induction over the steps of an order that comes -/
theorem match_ind {P : Bk × Ord → Prop} (hs : ∀ s e s', BkOk s.1 → step1 s = some (e, s') → P s' → P s) (h0 : ∀ s, BkOk s.1 → step1 s = none → P s) : ∀ (n : Nat) (s : Bk × Ord), mu1 s ≤ n → BkOk s.1 → P s
  | n, s, hn, hb => by
    cases e : step1 s with
    | none => exact h0 s hb e
    | some p =>
      obtain ⟨ev, s'⟩ := p
      have k := step_ok hb e
      have hm := k.mu
      cases n with
      | zero => omega
      | succ n => exact hs s ev s' hb e (match_ind hs h0 n s' (by omega) k.ok)
structure MatchOk (s : Bk × Ord) (s' : Bk × Ord) : Prop where
  ok : BkOk s'.1
  within : Within s'.1.ords s.1.ords
  len : s'.1.ords.length ≤ s.1.ords.length
  many : s'.1.many = s.1.many
  calling : s'.1.calling = s.1.calling
  like : Like s'.2 s.2
  rest0 : 0 ≤ s.2.rest → 0 ≤ s'.2.rest
  rest : s'.2.rest ≤ s.2.rest
  stop : step1 s' = none
theorem match_ok {s : Bk × Ord} (hb : BkOk s.1) : MatchOk s (matchAll s).2 :=
  match_ind (P := fun s => MatchOk s (matchAll s).2) (fun s e s' hb h ih => by
    have k := step_ok hb h
    rw [match_step hb h]
    exact ⟨ih.ok, ih.within.trans k.within, Nat.le_trans ih.len k.len, ih.many.trans k.many, ih.calling.trans k.calling, ih.like.trans k.like, fun _ => ih.rest0 k.rest0, Int.le_trans ih.rest k.rest, ih.stop⟩)
    (fun s hb h => by
      rw [match_none h]
      exact ⟨hb, Within.refl _, Nat.le_refl _, rfl, rfl, Like.refl _, id, Int.le_refl _, h⟩) _ s (Nat.le_refl _) hb
/-! ### an order comes -/
theorem side_of {z : PySem.Str} (h : goodSide z = true) : ∃ b, z = sideStr b := by
  unfold goodSide at h
  rcases Bool.or_eq_true_iff.mp h with h | h
  · exact ⟨true, of_decide_eq_true h⟩
  · exact ⟨false, of_decide_eq_true h⟩
theorem way_of {z : PySem.Str} (h : goodWay z = true) : ∃ w : Way, z = w.str := by
  unfold goodWay at h
  rcases Bool.or_eq_true_iff.mp h with h | h
  · exact ⟨.rest, of_decide_eq_true h⟩
  · rcases Bool.or_eq_true_iff.mp h with h | h
    · exact ⟨.now, of_decide_eq_true h⟩
    · exact ⟨.whole, of_decide_eq_true h⟩
theorem way_rest (w : Way) : decide (w.str = ("rest" : PySem.Str)) = decide (w = .rest) := by cases w <;> decide +kernel
theorem way_whole (w : Way) : decide (w.str = ("whole" : PySem.Str)) = decide (w = .whole) := by cases w <;> decide +kernel
theorem sideStr_inj {a b : Bool} (h : sideStr a = sideStr b) : a = b := by
  cases a <;> cases b <;> first | rfl | (revert h; decide +kernel)
theorem wayStr_inj {a b : Way} (h : a.str = b.str) : a = b := by
  cases a <;> cases b <;> first | rfl | (revert h; decide +kernel)
theorem goodSide_str (b : Bool) : goodSide (sideStr b) = true := by cases b <;> decide +kernel
theorem goodWay_str (w : Way) : goodWay w.str = true := by cases w <;> decide +kernel
/-- what a good order's parts are -/
structure Parts (price : Option Int) (many : Int) (shows : Option Int) (w : Way) : Prop where
  m1 : 1 ≤ many
  m2 : many ≤ 10000
  pr : ∀ p, price = some p → 1 ≤ p ∧ p ≤ 1000000000
  pn : price = none → w ≠ .rest
  sh : ∀ s, shows = some s → w = .rest ∧ 1 ≤ s ∧ s ≤ many
theorem goodO_parts {side : Bool} {price : Option Int} {many : Int} {shows : Option Int} {w : Way} : goodO (sideStr side) price many shows w.str = true ↔ Parts price many shows w := by
  unfold goodO isCount
  rw [goodSide_str, goodWay_str, way_rest]
  constructor
  · intro h
    simp only [Bool.true_and, Bool.and_eq_true, decide_eq_true_eq] at h
    obtain ⟨⟨⟨h1, h2⟩, h3⟩, h4⟩ := h
    refine ⟨h1, h2, fun p e => ?_, fun e => ?_, fun s e => ?_⟩
    · subst e
      simpa using h3
    · subst e
      simpa using h3
    · subst e
      simpa using h4
  · intro h
    simp only [Bool.true_and, Bool.and_eq_true, decide_eq_true_eq]
    refine ⟨⟨⟨h.m1, h.m2⟩, ?_⟩, ?_⟩
    · cases price with
      | none => simpa using h.pn rfl
      | some p => simpa using h.pr p rfl
    · cases shows with
      | none => rfl
      | some s => simpa using h.sh s rfl
structure PlaceOk (B : Bk) (B' : Bk) : Prop where
  ok : BkOk B'
  len : B'.ords.length ≤ B.ords.length + 1
  many : B'.many = B.many + 1
  calling : B'.calling = B.calling
theorem newOrd_may {B : Bk} (h : BkOk B) {ad : Nat} {owner : Int} {buy : Bool} {price : Option Int} {many : Int} {shows : Option Int} {w : Way} (g : Parts price many shows w) (hw : w = .rest) {o : Ord} (l : Like o (newOrd B ad owner buy price many shows)) (hr : 0 < o.rest) (hm2 : o.rest ≤ many) : MayRest (B.many + 1) o := by
  have hm := h.many0
  have hp : ∃ p, price = some p := by
    cases e : price with
    | none => exact absurd hw (g.pn e)
    | some p => exact ⟨p, rfl⟩
  obtain ⟨p, ep⟩ := hp
  have e1 : o.price = some p := l.price.trans ep
  have e2 : o.pr = p := by
    unfold Ord.pr
    rw [e1]
    rfl
  refine ⟨by rw [e2]; exact e1, by rw [e2]; exact (g.pr p ep).1, by omega, by have := g.m2; omega, fun s e => ?_, ?_, ?_⟩
  · exact (g.sh s (l.shows.symm.trans e)).2.1
  · rw [l.num]
    exact hm
  · rw [l.num]
    show B.many < B.many + 1
    omega
theorem place_ok {B : Bk} (h : BkOk B) {ad : Nat} {owner : Int} {buy : Bool} {price : Option Int} {many : Int} {shows : Option Int} {w : Way} (g : Parts price many shows w) : PlaceOk B (placeB B (newOrd B ad owner buy price many shows) w).2 := by
  have h1 := many_ok h
  unfold placeB
  show PlaceOk B (if w = .rest ∧ 0 < (if (!B.calling && (decide (w ≠ .whole) || canFill B.ords (newOrd B ad owner buy price many shows))) = true then matchAll ({ B with many := B.many + 1 }, newOrd B ad owner buy price many shows) else ([], ({ B with many := B.many + 1 }, newOrd B ad owner buy price many shows))).2.2.rest then _ else _)
  have key : ∀ r : List Ev × (Bk × Ord), MatchOk ({ B with many := B.many + 1 }, newOrd B ad owner buy price many shows) r.2 ∨ r = ([], ({ B with many := B.many + 1 }, newOrd B ad owner buy price many shows)) →
      PlaceOk B (if w = .rest ∧ 0 < r.2.2.rest then r.2.1.put r.2.2 else r.2.1) := fun r hr => by
    have facts : BkOk r.2.1 ∧ r.2.1.ords.length ≤ B.ords.length ∧ r.2.1.many = B.many + 1 ∧ r.2.1.calling = B.calling ∧ Like r.2.2 (newOrd B ad owner buy price many shows) ∧ r.2.2.rest ≤ many := by
      rcases hr with m | e
      · exact ⟨m.ok, m.len, m.many, m.calling, m.like, m.rest⟩
      · rw [e]
        exact ⟨h1, Nat.le_refl _, rfl, rfl, Like.refl _, Int.le_refl _⟩
    obtain ⟨f1, f2, f3, f4, f5, f6⟩ := facts
    by_cases c : w = .rest ∧ 0 < r.2.2.rest
    · rw [if_pos c]
      refine ⟨put_ok f1 (by rw [f3]; exact newOrd_may h g c.1 f5 c.2 f6), ?_, f3, f4⟩
      have := putO_len r.2.1.ords ({ r.2.2 with place := r.2.1.places + 1 } : Ord).show
      show (putO r.2.1.ords ({ r.2.2 with place := r.2.1.places + 1 } : Ord).show).length ≤ _
      omega
    · rw [if_neg c]
      exact ⟨f1, by omega, f3, f4⟩
  refine key _ ?_
  by_cases c : (!B.calling && (decide (w ≠ .whole) || canFill B.ords (newOrd B ad owner buy price many shows))) = true
  · rw [if_pos c]
    exact .inl (match_ok h1)
  · rw [if_neg c]
    exact .inr rfl
/-! ### the end of a call, step by step -/
def restSum (os : List Ord) : Int := (os.map (·.rest)).sum
theorem restSum_cons (o : Ord) (os : List Ord) : restSum (o :: os) = o.rest + restSum os := by
  unfold restSum
  rw [List.map_cons, List.sum_cons]
theorem restSum_nil : restSum [] = 0 := rfl
structure UOk (u : US) : Prop where
  ok : BkOk u.B
  bs : ∀ o ∈ u.buys, o ∈ u.B.ords ∧ o.buy = true
  ss : ∀ o ∈ u.sells, o ∈ u.B.ords ∧ o.buy = false
  nb : (u.buys.map (·.num)).Nodup
  ns : (u.sells.map (·.num)).Nodup
  l0 : 0 ≤ u.left
  lb : u.left ≤ restSum u.buys
  ls : u.left ≤ restSum u.sells
theorem UOk.heads {u : US} (h : UOk u) (h0 : 0 < u.left) : ∃ b bs s ss, u.buys = b :: bs ∧ u.sells = s :: ss := by
  have h1 := h.lb
  have h2 := h.ls
  cases eb : u.buys with
  | nil => rw [eb, restSum_nil] at h1; omega
  | cons b bs =>
    cases es : u.sells with
    | nil => rw [es, restSum_nil] at h2; omega
    | cons s ss => exact ⟨b, bs, s, ss, rfl, rfl⟩
theorem least3_le (x y z : Int) : least3 x y z ≤ x ∧ least3 x y z ≤ y ∧ least3 x y z ≤ z := by
  unfold least3
  have a := imin_le_l (imin x y) z
  have b := imin_le_r (imin x y) z
  have c := imin_le_l x y
  have d := imin_le_r x y
  omega
theorem least3_or (x y z : Int) : least3 x y z = x ∨ least3 x y z = y ∨ least3 x y z = z := by
  unfold least3
  rcases imin_or (imin x y) z with h | h
  · rw [h]
    rcases imin_or x y with k | k
    · exact .inl k
    · exact .inr (.inl k)
  · exact .inr (.inr h)
theorem ustep_some {p : Int} {u : US} {b s : Ord} {bs ss : List Ord} (h0 : 0 < u.left) (eb : u.buys = b :: bs) (es : u.sells = s :: ss) :
    ustep p u = some (⟨b.num, s.num, p, least3 u.left b.rest s.rest⟩,
        { left := u.left - least3 u.left b.rest s.rest, buys := liveO (lessen b (least3 u.left b.rest s.rest) :: bs), sells := liveO (lessen s (least3 u.left b.rest s.rest) :: ss),
          B := { u.B with last := some p, traded := u.B.traded + least3 u.left b.rest s.rest, ords := takeOff (takeOff u.B.ords (lessen b (least3 u.left b.rest s.rest))) (lessen s (least3 u.left b.rest s.rest)) } }) := by
  unfold ustep
  rw [if_pos h0, eb, es]
theorem ustep_none {p : Int} {u : US} (h0 : ¬ 0 < u.left) : ustep p u = none := by
  unfold ustep
  rw [if_neg h0]
theorem liveO_all {os : List Ord} (h : ∀ o ∈ os, 1 ≤ o.rest) : liveO os = os := by
  unfold liveO
  refine List.filter_eq_self.mpr fun o ho => ?_
  have := h o ho
  simp
  omega
theorem liveO_cons {o : Ord} {os : List Ord} (h : ∀ x ∈ os, 1 ≤ x.rest) : liveO (o :: os) = if 0 < o.rest then o :: os else os := by
  have e : liveO (o :: os) = if 0 < o.rest then o :: liveO os else liveO os := by
    unfold liveO
    rw [List.filter_cons]
    by_cases q : 0 < o.rest <;> simp [q]
  rw [e, liveO_all h]
theorem mem_takeOff {os : List Ord} {o x : Ord} (h : x ∈ takeOff os o) : (x = o ∧ o.rest ≠ 0) ∨ (x ∈ os ∧ x.num ≠ o.num) := by
  unfold takeOff at h
  by_cases e : o.rest = 0
  · rw [if_pos e] at h
    exact .inr (mem_dropO.mp h)
  · rw [if_neg e] at h
    rcases mem_updO h with ⟨q, _⟩ | q
    · exact .inl ⟨q, e⟩
    · exact .inr q
theorem take_other {os : List Ord} {o x : Ord} (h : x ∈ os) (n : x.num ≠ o.num) : x ∈ takeOff os o := by
  unfold takeOff
  by_cases e : o.rest = 0
  · rw [if_pos e]
    exact mem_dropO.mpr ⟨h, n⟩
  · rw [if_neg e]
    exact mem_upd_other h n
theorem take_self {os : List Ord} {o : Ord} (h : ∃ x ∈ os, x.num = o.num) (n : o.rest ≠ 0) : o ∈ takeOff os o := by
  unfold takeOff
  rw [if_neg n]
  exact mem_upd h
theorem take_len {os : List Ord} {o : Ord} : (takeOff os o).length ≤ os.length := by
  unfold takeOff
  by_cases e : o.rest = 0
  · rw [if_pos e]
    exact List.length_filter_le _ _
  · rw [if_neg e, updO_len]
    exact Nat.le_refl _
theorem lessen_like (o : Ord) (m : Int) : Like (lessen o m) o := ⟨rfl, rfl, rfl, rfl, rfl, rfl⟩
theorem take_ok {B : Bk} (h : BkOk B) {o : Ord} {m : Int} (ho : o ∈ B.ords) (h0 : 0 ≤ m) (h1 : m ≤ o.rest) : BkOk { B with ords := takeOff B.ords (lessen o m) } ∧ Within (takeOff B.ords (lessen o m)) B.ords := by
  have q := h.os o ho
  unfold takeOff
  have er : (lessen o m).rest = o.rest - m := rfl
  by_cases e : (lessen o m).rest = 0
  · rw [if_pos e]
    exact ⟨drop_ok h _, within_drop _ _⟩
  · rw [if_neg e]
    have hsh := shown_ok (o := { o with rest := o.rest - m }) (by show 1 ≤ o.rest - m; omega) q.shows
    refine ⟨upd_ok h ho rfl rfl ⟨q.price, q.prb, by show 1 ≤ o.rest - m; omega, by have := q.rmax; show o.rest - m ≤ 10000; omega, hsh.1, hsh.2, q.shows, q.num0, q.num, q.pl0, q.pl⟩, within_upd ho (lessen_like o m) (by show o.rest - m ≤ o.rest; omega)⟩
structure UStepOk (u u' : US) : Prop where
  ok : UOk u'
  within : Within u'.B.ords u.B.ords
  len : u'.B.ords.length ≤ u.B.ords.length
  many : u'.B.many = u.B.many
  calling : u'.B.calling = u.B.calling
  mu : muU u' < muU u
theorem ustep_ok {p : Int} {u u' : US} {c : CTr} (h : UOk u) (hs : ustep p u = some (c, u')) : UStepOk u u' := by
  have h0 : 0 < u.left := by
    by_cases h0 : 0 < u.left
    · exact h0
    · rw [ustep_none h0] at hs
      cases hs
  obtain ⟨b, bs, s, ss, eb, es⟩ := h.heads h0
  rw [ustep_some h0 eb es] at hs
  have e := Option.some.inj hs
  have eu : u' = _ := (congrArg Prod.snd e).symm
  clear hs e
  have hb := h.bs b (by rw [eb]; exact List.mem_cons_self)
  have hs := h.ss s (by rw [es]; exact List.mem_cons_self)
  have qb := h.ok.os b hb.1
  have qs := h.ok.os s hs.1
  have ml := least3_le u.left b.rest s.rest
  have mo := least3_or u.left b.rest s.rest
  generalize hm : least3 u.left b.rest s.rest = m at *
  have hbr := qb.rest
  have hsr := qs.rest
  have m1 : 1 ≤ m := by omega
  have nbs : b.num ≠ s.num := fun z => by
    have := nodup_inj h.ok.ndn hb.1 hs.1 z
    rw [this, hs.2] at hb
    exact absurd hb.2 (by decide)
  have t1 := take_ok h.ok hb.1 (by omega) ml.2.1
  have hs1 : s ∈ takeOff u.B.ords (lessen b m) := take_other hs.1 (Ne.symm nbs)
  have t2 := take_ok t1.1 (o := s) (m := m) hs1 (by omega) ml.2.2
  have nb := h.nb
  have ns := h.ns
  rw [eb, List.map_cons, List.nodup_cons] at nb
  rw [es, List.map_cons, List.nodup_cons] at ns
  have lb : ∀ x ∈ bs, 1 ≤ x.rest := fun x hx => (h.ok.os x (h.bs x (by rw [eb]; exact List.mem_cons_of_mem _ hx)).1).rest
  have ls : ∀ x ∈ ss, 1 ≤ x.rest := fun x hx => (h.ok.os x (h.ss x (by rw [es]; exact List.mem_cons_of_mem _ hx)).1).rest
  have elb := liveO_cons (o := lessen b m) lb
  have els := liveO_cons (o := lessen s m) ls
  have rb : (lessen b m).rest = b.rest - m := rfl
  have rs : (lessen s m).rest = s.rest - m := rfl
  have sb := h.lb
  have sS := h.ls
  rw [eb, restSum_cons] at sb
  rw [es, restSum_cons] at sS
  -- who is where
  have inB : ∀ x ∈ bs, x ∈ takeOff (takeOff u.B.ords (lessen b m)) (lessen s m) ∧ x.buy = true := fun x hx => by
    have q := h.bs x (by rw [eb]; exact List.mem_cons_of_mem _ hx)
    refine ⟨take_other (take_other q.1 fun z => nb.1 (List.mem_map.mpr ⟨x, hx, z⟩)) (fun z => ?_), q.2⟩
    have := nodup_inj h.ok.ndn q.1 hs.1 z
    rw [this, hs.2] at q
    exact absurd q.2 (by decide)
  have inS : ∀ x ∈ ss, x ∈ takeOff (takeOff u.B.ords (lessen b m)) (lessen s m) ∧ x.buy = false := fun x hx => by
    have q := h.ss x (by rw [es]; exact List.mem_cons_of_mem _ hx)
    refine ⟨take_other (take_other q.1 (fun z => ?_)) (fun z => ns.1 (List.mem_map.mpr ⟨x, hx, z⟩)), q.2⟩
    have := nodup_inj h.ok.ndn q.1 hb.1 z
    rw [this, hb.2] at q
    exact absurd q.2 (by decide)
  rw [eu]
  refine ⟨⟨tell_ok t2.1 (some p) (u.B.traded + m), fun x hx => ?_, fun x hx => ?_, ?_, ?_, by show 0 ≤ u.left - m; omega, ?_, ?_⟩, t2.2.trans t1.2, Nat.le_trans take_len take_len, rfl, rfl, ?_⟩
  · have hx : x ∈ liveO (lessen b m :: bs) := hx
    rw [elb] at hx
    by_cases c : 0 < (lessen b m).rest
    · rw [if_pos c] at hx
      rcases List.mem_cons.mp hx with e | hx
      · rw [e]
        exact ⟨take_other (take_self ⟨b, hb.1, rfl⟩ (by omega)) nbs, hb.2⟩
      · exact inB x hx
    · rw [if_neg c] at hx
      exact inB x hx
  · have hx : x ∈ liveO (lessen s m :: ss) := hx
    rw [els] at hx
    by_cases c : 0 < (lessen s m).rest
    · rw [if_pos c] at hx
      rcases List.mem_cons.mp hx with e | hx
      · rw [e]
        exact ⟨take_self ⟨s, hs1, rfl⟩ (by omega), hs.2⟩
      · exact inS x hx
    · rw [if_neg c] at hx
      exact inS x hx
  · show ((liveO (lessen b m :: bs)).map (·.num)).Nodup
    rw [elb]
    by_cases c : 0 < (lessen b m).rest
    · rw [if_pos c, List.map_cons, List.nodup_cons]
      exact nb
    · rw [if_neg c]
      exact nb.2
  · show ((liveO (lessen s m :: ss)).map (·.num)).Nodup
    rw [els]
    by_cases c : 0 < (lessen s m).rest
    · rw [if_pos c, List.map_cons, List.nodup_cons]
      exact ns
    · rw [if_neg c]
      exact ns.2
  · show u.left - m ≤ restSum (liveO (lessen b m :: bs))
    rw [elb]
    by_cases c : 0 < (lessen b m).rest
    · rw [if_pos c, restSum_cons]
      omega
    · rw [if_neg c]
      omega
  · show u.left - m ≤ restSum (liveO (lessen s m :: ss))
    rw [els]
    by_cases c : 0 < (lessen s m).rest
    · rw [if_pos c, restSum_cons]
      omega
    · rw [if_neg c]
      omega
  · show (u.left - m).toNat < u.left.toNat
    omega
theorem uiter_step {p : Int} {u u' : US} {c : CTr} (h : UOk u) (hs : ustep p u = some (c, u')) : iter (ustep p) (muU u) u = (c :: (iter (ustep p) (muU u') u').1, (iter (ustep p) (muU u') u').2) :=
  iter_step (I := UOk) (mu := muU) (fun u c u' hI hs => ⟨(ustep_ok hI hs).ok, (ustep_ok hI hs).mu⟩) h hs
/-! ### the call's price, first facts -/
theorem sum_nonneg : ∀ {l : List Int}, (∀ x ∈ l, 0 ≤ x) → 0 ≤ l.sum
  | [], _ => Int.le_refl _
  | a :: l, h => by
    rw [List.sum_cons]
    have := h a List.mem_cons_self
    have := sum_nonneg (l := l) fun x hx => h x (List.mem_cons_of_mem _ hx)
    omega
theorem sum_filter_le {q : Ord → Bool} : ∀ {os : List Ord}, (∀ o ∈ os, 0 ≤ o.rest) → ((os.filter q).map (·.rest)).sum ≤ restSum os
  | [], _ => Int.le_refl _
  | a :: l, h => by
    have ih := sum_filter_le (q := q) (os := l) fun x hx => h x (List.mem_cons_of_mem _ hx)
    have h0 := h a List.mem_cons_self
    rw [restSum_cons, List.filter_cons]
    by_cases e : q a = true
    · rw [if_pos e, List.map_cons, List.sum_cons]
      omega
    · rw [if_neg e]
      omega
theorem wanted_nonneg {os : List Ord} (h : ∀ o ∈ os, 0 ≤ o.rest) (side : Bool) (p : Int) : 0 ≤ wanted os side p := by
  unfold wanted
  refine sum_nonneg fun x hx => ?_
  obtain ⟨o, ho, e⟩ := List.mem_map.mp hx
  rw [← e]
  exact h o (row_mem.mp (List.mem_filter.mp ho).1).1
theorem wanted_le {os : List Ord} (h : ∀ o ∈ os, 0 ≤ o.rest) (side : Bool) (p : Int) : wanted os side p ≤ restSum (row os side) := by
  unfold wanted
  exact sum_filter_le fun o ho => h o (row_mem.mp ho).1
theorem better_mem {l : List (List Int)} {r : List Int} : ∀ {b : Option (List Int)}, l.foldl better b = some r → r ∈ l ∨ b = some r := by
  induction l with
  | nil => intro b h; exact .inr h
  | cons x l ih =>
    intro b h
    rw [List.foldl_cons] at h
    rcases ih h with h | h
    · exact .inl (List.mem_cons_of_mem _ h)
    · unfold better at h
      cases b with
      | none =>
        have h : some x = some r := h
        rw [Option.some.inj h]
        exact .inl List.mem_cons_self
      | some c =>
        have h : (if ltL x c then some x else some c) = some r := h
        by_cases e : ltL x c = true
        · rw [if_pos e] at h
          rw [Option.some.inj h]
          exact .inl List.mem_cons_self
        · rw [if_neg e] at h
          exact .inr h
theorem best_mem {os : List Ord} {last : Option Int} {r : List Int} (h : bestOf os last = some r) : ∃ o ∈ os, r = rank os last o.pr := by
  unfold bestOf at h
  rcases better_mem h with h | h
  · obtain ⟨o, ho, e⟩ := List.mem_map.mp h
    exact ⟨o, ho, e.symm⟩
  · cases h
theorem callPrice_some {os : List Ord} {last : Option Int} {p n : Int} (h : callPrice os last = some (p, n)) : ∃ o ∈ os, p = o.pr ∧ n = imin (wanted os true p) (wanted os false p) ∧ n ≠ 0 ∧ bestOf os last = some (rank os last p) := by
  unfold callPrice at h
  cases e : bestOf os last with
  | none => rw [e] at h; cases h
  | some r =>
    obtain ⟨o, ho, er⟩ := best_mem e
    rw [e, er] at h
    unfold rank at h
    have h : (if -imin (wanted os true o.pr) (wanted os false o.pr) = 0 then none else some (o.pr, - -imin (wanted os true o.pr) (wanted os false o.pr))) = some (p, n) := h
    by_cases c : -imin (wanted os true o.pr) (wanted os false o.pr) = 0
    · rw [if_pos c] at h
      cases h
    · rw [if_neg c] at h
      have h := Option.some.inj h
      have e1 : o.pr = p := congrArg Prod.fst h
      have e2 : - -imin (wanted os true o.pr) (wanted os false o.pr) = n := congrArg Prod.snd h
      rw [e1] at e2 c er
      exact ⟨o, ho, e1.symm, by omega, by omega, by rw [er]⟩
theorem imin_nonneg {i j : Int} (h1 : 0 ≤ i) (h2 : 0 ≤ j) : 0 ≤ imin i j := by
  have := imin_or i j
  omega
theorem callPrice_bound {os : List Ord} {last : Option Int} {p n : Int} (hr : ∀ o ∈ os, 0 ≤ o.rest) (h : callPrice os last = some (p, n)) : 0 < n ∧ n ≤ restSum (row os true) ∧ n ≤ restSum (row os false) := by
  obtain ⟨o, ho, e1, e2, e3, _⟩ := callPrice_some h
  have a := wanted_nonneg hr true p
  have b := wanted_nonneg hr false p
  have c := wanted_le hr true p
  have d := wanted_le hr false p
  have e := imin_nonneg a b
  have f := imin_le_l (wanted os true p) (wanted os false p)
  have g := imin_le_r (wanted os true p) (wanted os false p)
  omega
theorem nodup_row {β : Type} {f : Ord → β} {os : List Ord} {side : Bool} (h : (os.map f).Nodup) : ((row os side).map f).Nodup := by
  unfold row
  have h1 : ((os.filter fun o => o.buy == side).map f).Nodup := h.sublist ((List.filter_sublist).map _)
  exact (((List.mergeSort_perm _ leO).map f).nodup_iff).mpr h1
theorem ustart_ok {B : Bk} {p n : Int} (h : BkOk B) (e : callPrice B.ords B.last = some (p, n)) : UOk { left := n, buys := row B.ords true, sells := row B.ords false, B := { B with calling := false } } := by
  have k := callPrice_bound (fun o ho => by have := (h.os o ho).rest; omega) e
  exact ⟨calling_ok h false, fun o ho => row_mem.mp ho, fun o ho => row_mem.mp ho, nodup_row h.ndn, nodup_row h.ndn, Int.le_of_lt k.1, k.2.1, k.2.2⟩
structure UncOk (B B' : Bk) : Prop where
  ok : BkOk B'
  within : Within B'.ords B.ords
  len : B'.ords.length ≤ B.ords.length
  many : B'.many = B.many
  calling : B'.calling = false
theorem iter_succ {S E : Type} (step : S → Option (E × S)) (n : Nat) (s : S) : iter step (n + 1) s = (match step s with | none => ([], s) | some (e, s1) => (e :: (iter step n s1).1, (iter step n s1).2)) := rfl
theorem uiter_ok {p : Int} : ∀ (n : Nat) (u : US), UOk u → u.B.calling = false → UncOk u.B (iter (ustep p) n u).2.B
  | 0, u, h, hc => ⟨h.ok, Within.refl _, Nat.le_refl _, rfl, hc⟩
  | n + 1, u, h, hc => by
    cases e : ustep p u with
    | none =>
      rw [iter_none e]
      exact ⟨h.ok, Within.refl _, Nat.le_refl _, rfl, hc⟩
    | some q =>
      obtain ⟨c, u'⟩ := q
      have k := ustep_ok h e
      have ih := uiter_ok (p := p) n u' k.ok (k.calling.trans hc)
      rw [iter_succ, e]
      exact ⟨ih.ok, ih.within.trans k.within, Nat.le_trans ih.len k.len, ih.many.trans k.many, ih.calling⟩
theorem uncross_ok {B : Bk} (h : BkOk B) : UncOk B (uncrossB B).2 := by
  unfold uncrossB
  cases e : callPrice B.ords B.last with
  | none => exact ⟨calling_ok h false, Within.refl _, Nat.le_refl _, rfl, rfl⟩
  | some q =>
    obtain ⟨p, n⟩ := q
    have k := uiter_ok (p := p) n.toNat _ (ustart_ok h e) rfl
    exact ⟨k.ok, k.within, k.len, k.many, k.calling⟩
theorem restSum_le : ∀ {os : List Ord}, (∀ o ∈ os, o.rest ≤ 10000) → restSum os ≤ 10000 * os.length
  | [], _ => Int.le_refl _
  | a :: l, h => by
    have := h a List.mem_cons_self
    have := restSum_le (os := l) fun x hx => h x (List.mem_cons_of_mem _ hx)
    rw [restSum_cons, List.length_cons]
    omega
/-- those behind the heads stand as they stood -/
theorem tail_in {u : US} (h : UOk u) {b s : Ord} {bs ss : List Ord} (eb : u.buys = b :: bs) (es : u.sells = s :: ss) (m : Int) :
    (∀ x ∈ bs, x ∈ takeOff (takeOff u.B.ords (lessen b m)) (lessen s m)) ∧ (∀ x ∈ ss, x ∈ takeOff (takeOff u.B.ords (lessen b m)) (lessen s m)) ∧ s ∈ takeOff u.B.ords (lessen b m) ∧ b.num ≠ s.num := by
  have hb := h.bs b (by rw [eb]; exact List.mem_cons_self)
  have hs := h.ss s (by rw [es]; exact List.mem_cons_self)
  have nbs : b.num ≠ s.num := fun z => by
    have := nodup_inj h.ok.ndn hb.1 hs.1 z
    rw [this, hs.2] at hb
    exact absurd hb.2 (by decide)
  have nb := h.nb
  have ns := h.ns
  rw [eb, List.map_cons, List.nodup_cons] at nb
  rw [es, List.map_cons, List.nodup_cons] at ns
  refine ⟨fun x hx => ?_, fun x hx => ?_, take_other hs.1 (Ne.symm nbs), nbs⟩
  · have q := h.bs x (by rw [eb]; exact List.mem_cons_of_mem _ hx)
    refine take_other (take_other q.1 fun z => nb.1 (List.mem_map.mpr ⟨x, hx, z⟩)) (fun z => ?_)
    have := nodup_inj h.ok.ndn q.1 hs.1 z
    rw [this, hs.2] at q
    exact absurd q.2 (by decide)
  · have q := h.ss x (by rw [es]; exact List.mem_cons_of_mem _ hx)
    refine take_other (take_other q.1 (fun z => ?_)) (fun z => ns.1 (List.mem_map.mpr ⟨x, hx, z⟩))
    have := nodup_inj h.ok.ndn q.1 hb.1 z
    rw [this, hb.2] at q
    exact absurd q.2 (by decide)
end FB

set_option maxRecDepth 100000
set_option maxHeartbeats 4000000
/-! Further rules, and short words, for the walks of fairbook. -/
namespace FB
open PySem PySem.Spec PyProof.Rows L2

/-! ### the head: facts by names and a list of further looks -/
def obsX (n : Nat) (fa : List He.Fa) (fn : List He.DefD) (xb : PySem.W.Frag → List Bool) (g : Addr → Option Obj) : Bool × He.AlD :=
  let K := He.frG g (He.asD g n)
  ((xb K).all id, He.obsD fa fn K)
def hookX (n : Nat) (fa : List He.Fa) (fn : List He.DefD) (xb : PySem.W.Frag → List Bool) : PySem.W.Hook where
  α := Bool × He.AlD
  obs := fun s => obsX n fa fn xb s.heap.get?
  val := fun _ => (true, He.valD fn)
  says := fun _ h => ∃ K : PySem.W.Frag, K.In h ∧ He.SaysD fa fn K ∧ (xb K).all id = true
  of := fun _ _ e => ⟨_, He.frG_in, congrArg Prod.snd e, congrArg Prod.fst e⟩
  keeps := fun _ _ _ ⟨K, hK, c⟩ k => ⟨K, PySem.W.Frag.In.keeps hK k, c⟩
theorem obsX_eq {n : Nat} {fa : List He.Fa} {fn : List He.DefD} {xb : PySem.W.Frag → List Bool} {g : Addr → Option Obj} {s : Shared} (h : ∀ a, g a = s.heap.get? a) : obsX n fa fn xb g = (hookX n fa fn xb).obs s := by
  have e : g = s.heap.get? := funext h
  rw [e] <;> rfl
theorem allB {bs : List Bool} (h : bs.all id = true) (i : Nat) {b : Bool} (e : bs[i]? = some b) : b = true := List.all_eq_true.mp h b (List.mem_of_getElem? e)
def excCB (K : PySem.W.Frag) (D : Addr) : Bool :=
  decide (PySem.W.findIn K (.ref D) "__getattribute__" = some (some (.builtin "BaseException.__getattribute__"))) &&
  (decide (PySem.W.findIn K (.ref D) "__getattr__" = some none) &&
  (decide (PySem.W.subIn K (.ref D) (.type "BaseException") = some true) &&
  (PySem.W.hasDictIn K D &&
  (decide (PySem.W.findIn K (.ref D) "__class__" = some (some (.builtin "object.__class__"))) &&
  (decide (PySem.W.specialIn K (.builtin "object.__class__") "__get__" = some (some (.builtin "getset_descriptor.__get__"))) &&
  (decide (PySem.W.takesIn K (.builtin "object.__class__") = some true) &&
  decide (PySem.W.mroIn K D (.type "object") = some true)))))))
theorem excCB_ok {K : PySem.W.Frag} {D : Addr} (h : excCB K D = true) : ExcC K D := by
  unfold excCB at h
  obtain ⟨h1, h⟩ := He.ba h
  obtain ⟨h2, h⟩ := He.ba h
  obtain ⟨h3, h⟩ := He.ba h
  obtain ⟨h4, h⟩ := He.ba h
  obtain ⟨h5, h⟩ := He.ba h
  obtain ⟨h6, h⟩ := He.ba h
  obtain ⟨h7, h8⟩ := He.ba h
  exact ⟨of_decide_eq_true h1, of_decide_eq_true h2, of_decide_eq_true h3, h4, of_decide_eq_true h5, of_decide_eq_true h6, of_decide_eq_true h7, of_decide_eq_true h8⟩

/-! ### defs by names -/
abbrev FD (K : PySem.W.Frag) (x q : Str) (st : Stmt) (f : Addr) : Prop := ∃ fd, FunD K x q (defArgs st) (defBody st) (defScope st) [] [] f fd
/-- the module's def x keeps its promise -/
structure Fn (P : Program) (w : World) (K : PySem.W.Frag) (mg : Str → Option Value) (base : Heap) (CX : CXT) (k : Nat) (x : Str) (ps : List Str) (sp : Sp) : Prop where
  ok : ∃ fd, FnOk P w K mg base CX k (He.ga K x) fd ps sp ∧ Binds K fd ps []
  gl : mg x = some (.ref (He.ga K x))
  kp : PySem.W.keepIn K (.ref (He.ga K x)) = true
/-- the class C's method m -/
structure Mt (P : Program) (w : World) (K : PySem.W.Frag) (mg : Str → Option Value) (base : Heap) (CX : CXT) (k : Nat) (C m : Str) (ps : List Str) (sp : Sp) : Prop where
  ok : ∃ fd, FnOk P w K mg base CX k (He.ma K (He.ga K C) m) fd ps sp ∧ Binds K fd ps []
  cl : Cls K (He.ga K C)
  me : Meth K (He.ga K C) m (He.ma K (He.ga K C) m)
/-- the class C's __init__ -/
structure Cn (P : Program) (w : World) (K : PySem.W.Frag) (mg : Str → Option Value) (base : Heap) (CX : CXT) (k : Nat) (C : Str) (ps : List Str) (sp : Sp) : Prop where
  ok : ∃ fd, FnOk P w K mg base CX k (He.ma K (He.ga K C) "__init__") fd ps sp ∧ Binds K fd ps []
  mak : Mk K (He.ga K C) (He.ma K (He.ga K C) "__init__")
  gl : mg C = some (.ref (He.ga K C))
section
variable {X : Cx} {CX : CXT} {k : Nat} {x C m : Str} {ps : List Str} {sp : Sp} {E : XK} {p pos apos : Pos} {e o : Expr} {es : List Expr} {ta : TE} {t : TA}
theorem pe_fn (F : Fn X.prog X.w X.K X.mg X.base CX k x ps sp) (hr : Room k X.A) (hg : Gl X x) (hx : Passes CX X E) (ha : PA X (e :: es) t)
    (hdb : (x == ("__debug__" : Str)) = false := by decide) (he : starEach (e :: es) X.env = (false, eval e X.env) :: starEach es X.env := by rfl) (hpl : (backTo pos (starEach es X.env)).any (·.1) = false := by rfl) :
    PE X (.Call (.Name x p) (e :: es) [] pos) (tCall sp [] E t) := by
  obtain ⟨fd, G, b⟩ := F.ok
  exact pe_call G hr hg F.gl F.kp b .nil hx ha hdb he hpl
theorem pe_fn0 (F : Fn X.prog X.w X.K X.mg X.base CX k x ps sp) (hr : Room k X.A) (hg : Gl X x) (hx : Passes CX X E) (hdb : (x == ("__debug__" : Str)) = false := by decide) :
    PE X (.Call (.Name x p) [] [] pos) (tCall sp [] E tNil) := by
  obtain ⟨fd, G, b⟩ := F.ok
  exact pe_call0 G hr hg F.gl F.kp b .nil hx hdb
theorem pe_mt {pl : Sem Bool} (he : PE X o ta) (F : Mt X.prog X.w X.K X.mg X.base CX k C m ps sp) (hr : Room k X.A) (hx : Passes CX X E) (ha : PA X (e :: es) t)
    (hst : starEach (e :: es) X.env = (false, eval e X.env) :: starEach es X.env := by rfl) (hpl : (backTo pos (starEach es X.env)).any (·.1) = false := by rfl)
    (ht : eval (.Call (.Attribute o m apos) (e :: es) [] pos) X.env = (do
      let ov ← eval o X.env
      standAt apos.atName
      let (f, first) ← holding [ov] (getMethod ov m pl)
      callWith pos f first (backTo pos (starEach (e :: es) X.env)) (backToKw pos (keywordEach [] X.env))) := by rfl) :
    PE X (.Call (.Attribute o m apos) (e :: es) [] pos) (tMeth (He.ga X.K C) m sp [] E ta t) := by
  obtain ⟨fd, G, b⟩ := F.ok
  exact pe_meth he F.cl F.me G hr b .nil hx ha hst hpl ht
theorem pe_mt0 {pl : Sem Bool} (he : PE X o ta) (F : Mt X.prog X.w X.K X.mg X.base CX k C m ps sp) (hr : Room k X.A) (hx : Passes CX X E)
    (ht : eval (.Call (.Attribute o m apos) [] [] pos) X.env = (do
      let ov ← eval o X.env
      standAt apos.atName
      let (f, first) ← holding [ov] (getMethod ov m pl)
      callWith pos f first (backTo pos (starEach [] X.env)) (backToKw pos (keywordEach [] X.env))) := by rfl) :
    PE X (.Call (.Attribute o m apos) [] [] pos) (tMeth (He.ga X.K C) m sp [] E ta tNil) := by
  obtain ⟨fd, G, b⟩ := F.ok
  exact pe_meth0 he F.cl F.me G hr b .nil hx ht
theorem pe_cn (F : Cn X.prog X.w X.K X.mg X.base CX k C ps sp) (hr : Room (k + 1) X.A) (hg : Gl X C) (hx : Passes CX X E) (ha : PA X (e :: es) t)
    (hdb : (C == ("__debug__" : Str)) = false := by decide) (he : starEach (e :: es) X.env = (false, eval e X.env) :: starEach es X.env := by rfl) (hpl : (backTo pos (starEach es X.env)).any (·.1) = false := by rfl) :
    PE X (.Call (.Name C p) (e :: es) [] pos) (tMake (He.ga X.K C) sp [] E t) := by
  obtain ⟨fd, G, b⟩ := F.ok
  exact pe_make F.mak G hr hg F.gl b .nil hx ha hdb he hpl
theorem pe_cn0 (F : Cn X.prog X.w X.K X.mg X.base CX k C ps sp) (hr : Room (k + 1) X.A) (hg : Gl X C) (hx : Passes CX X E) (hdb : (C == ("__debug__" : Str)) = false := by decide) :
    PE X (.Call (.Name C p) [] [] pos) (tMake (He.ga X.K C) sp [] E tNil) := by
  obtain ⟨fd, G, b⟩ := F.ok
  exact pe_make0 F.mak G hr hg F.gl b .nil hx hdb
end
section
variable {P : Program} {w : World} {K : PySem.W.Frag} {mg : Str → Option Value} {base : Heap} {x q C : Str} {st : Stmt} {N ps : List Str} {k : Nat} {sp : Sp} {f : Addr}
/-- how the arguments of the def st bind -/
abbrev BindsAll (x q : Str) (st : Stmt) (ps : List Str) : Prop := ∀ (kV doc pm : Value) (an : Option Addr) (cdv ct : Value) (us : List Value), us.length = ps.length → bindArgs (PySem.W.fnOf x q (defArgs st) (defBody st) (defScope st) .none kV doc pm an cdv ct) ⟨us, []⟩ = pure (ps.zip us)
/-- a def that raises nothing, from its body -/
theorem ok0 (F : FD K x q st f) (S : FnScope N ps (defScope st)) (hb : BindsAll x q st ps) (len : ∀ vs H Q E, sp vs H Q E → vs.length = ps.length)
    (hbody : ∀ (cdv : Value) (A : Around) (outer : List Env) (s : Shared) (H : Hp) (vs : List V) (Q : VK) (E : XK), Room k (A.deeper (envOfC q (defScope st) s.heap.objs.size f cdv)) → sp vs H Q E →
      ∃ t, PSs (cxOf CX0 P w K mg base N q (defScope st) f cdv A outer s H E).nox (defBody st) t ∧ t { nx := fun _ H' => Q .non H', rt := Q } (start N vs) H) :
    ∃ fd, FnOk P w K mg base CX0 (k + 1) f fd ps sp ∧ Binds K fd ps [] := by
  obtain ⟨fd, G⟩ := F
  refine ⟨fd, FunD.ok (CX := CX0) G S len (fun cdv A outer s H vs Q E hr hsp => ?_), FunD.bindsN G hb⟩
  obtain ⟨t, h, q⟩ := hbody cdv A outer s H vs Q E hr hsp
  exact ⟨t, h.nox, q⟩
/-- .. one that may raise -/
theorem okX (F : FD K x q st f) (S : FnScope N ps (defScope st)) (hb : BindsAll x q st ps) (len : ∀ vs H Q E, sp vs H Q E → vs.length = ps.length)
    (hbody : ∀ (cdv : Value) (A : Around) (outer : List Env) (s : Shared) (H : Hp) (vs : List V) (Q : VK) (E : XK), Room k (A.deeper (envOfC q (defScope st) s.heap.objs.size f cdv)) → sp vs H Q E →
      ∃ t, PSs (cxOf (L2.CX P w) P w K mg base N q (defScope st) f cdv A outer s H E) (defBody st) t ∧ t { nx := fun _ H' => Q .non H', rt := Q } (start N vs) H) :
    ∃ fd, FnOk P w K mg base (L2.CX P w) (k + 1) f fd ps sp ∧ Binds K fd ps [] := by
  obtain ⟨fd, G⟩ := F
  exact ⟨fd, FunD.ok (CX := L2.CX P w) G S len hbody, FunD.bindsN G hb⟩
end

/-! ### pairs -/
theorem paired_snoc {α β : Type} {F : α → β → Prop} : ∀ {l₁ : List α} {l₂ : List β} {a : α} {b : β}, Paired F l₁ l₂ → F a b → Paired F (l₁ ++ [a]) (l₂ ++ [b])
  | _, _, _, _, .nil, h => .cons h .nil
  | _, _, _, _, .cons r t, h => .cons r (paired_snoc t h)
theorem paired_map {α β : Type} {F G : α → β → Prop} (h : ∀ a b, F a b → G a b) : ∀ {l₁ : List α} {l₂ : List β}, Paired F l₁ l₂ → Paired G l₁ l₂
  | _, _, .nil => .nil
  | _, _, .cons r t => .cons (h _ _ r) (paired_map h t)
theorem paired_eq {α β : Type} {g : α → β} : ∀ {l₁ : List α} {l₂ : List β}, Paired (fun a b => b = g a) l₁ l₂ → l₂ = l₁.map g
  | _, _, .nil => rfl
  | _, _, .cons r t => by rw [List.map_cons, ← paired_eq t, r]
theorem paired_len {α β : Type} {F : α → β → Prop} : ∀ {l₁ : List α} {l₂ : List β}, Paired F l₁ l₂ → l₂.length = l₁.length
  | _, _, .nil => rfl
  | _, _, .cons _ t => by rw [List.length_cons, List.length_cons, paired_len t]

/-! ### a comprehension that leaves all that stood as it was -/
theorem same_upd {H H1 : Hp} {p : Addr} {o : HO} (s : L2.Same H H1) (n : H1 p = none) : L2.Same H (L2.upd H1 p o) := fun b u e => by
  rw [upd_ne (ne_of_none (s b u e) n)]
  exact s b u e
theorem same_new {H : Hp} {p : Addr} {o : HO} (n : H p = none) : L2.Same H (L2.upd H p o) := same_upd (L2.Same.refl H) n
/-- all but what stands at D is as it was -/
def SameBut (D : Addr) (H H' : Hp) : Prop := ∀ b o, b ≠ D → H b = some o → H' b = some o
section
variable {α : Type} {g : TG} {tt : TT} {te : TE} {vs : List Nat} {σ : L2.St} {H1 : Hp} {D : Addr} {Qd : Hp → Prop} {zs : List α} {enc : α → V} {p : α → Bool} {R : α → V → Hp → Prop}
theorem lc_relJ (J : It) (hgo : ∀ i H, L2.Same H1 H → i < zs.length → J.go i H) (hstop : ∀ H, L2.Same H1 H → J.stop zs.length H)
    (hy : ∀ i H x H', L2.Same H1 H → i < zs.length → J.yld i H x H' → H' = H ∧ ∃ z, zs[i]? = some z ∧ x = enc z)
    (hz : zs.length ≤ sizeLine) (hn : H1 D = none) (hR : ∀ z y H H' xs, H D = some (.lst xs) → SameBut D H H' → R z y H → R z y H')
    (hs : ∀ z ∈ zs, ∀ H, L2.Same H1 H → ∀ (Qy : VK) (Qn : Hp → Prop), (p z = true → ∀ y H', L2.Same H H' → R z y H' → Qy y H') → (p z = false → ∀ H', L2.Same H H' → Qn H') →
      g (enc z) (wipe σ vs) H fun σ2 H2 => wipe σ2 vs = wipe σ vs ∧ tt σ2 H2 fun b H3 => if b = true then te σ2 H3 Qy else Qn H3)
    (hd : ∀ H ys, L2.Same H1 H → H D = some (.lst ys) → Paired (fun z y => R z y H) (zs.filter p) ys → Qd H) :
    ∃ W : Nat → Nat → Hp → Prop, (∃ m, W 0 m (upd H1 D (.lst []))) ∧ ∀ i m H, W i m H →
      (J.stop i H ∧ Qd H) ∨ (J.go i H ∧ ∃ Nx : Hp → Prop, (∀ H', Nx H' → ∃ m', m' < m ∧ W (i + 1) m' H') ∧ ∀ x H', J.yld i H x H' → g x (wipe σ vs) H' fun σ2 H2 => wipe σ2 vs = wipe σ vs ∧ tt σ2 H2 fun b H3 =>
        if b = true then te σ2 H3 fun y H4 => ∃ acc, H4 D = some (.lst acc) ∧ acc.length < sizeLine ∧ Nx (upd H4 D (.lst (acc ++ [y]))) else Nx H3) := by
  let Pv : Nat → Hp → Prop := fun i H => L2.Same H1 H ∧ ∃ ys, H D = some (.lst ys) ∧ ys.length ≤ i ∧ Paired (fun z y => R z y H) ((zs.take i).filter p) ys
  refine ⟨fun i m H => m = zs.length - i ∧ i ≤ zs.length ∧ Pv i H, ⟨zs.length, by simp, Nat.zero_le _, same_new hn, [], upd_same, Nat.le_refl _, .nil⟩, ?_⟩
  rintro i m H ⟨rfl, hi, sm, ys, hD, hl, hP⟩
  by_cases hlt : i < zs.length
  · refine .inr ⟨hgo i H sm hlt, Pv (i + 1), fun H' p' => ⟨zs.length - (i + 1), by omega, rfl, hlt, p'⟩, fun x H' y => ?_⟩
    obtain ⟨e, z, hzi, ex⟩ := hy i H x H' sm hlt y
    subst e ex
    have mz : z ∈ zs := List.mem_of_getElem? hzi
    have tk : zs.take (i + 1) = zs.take i ++ [z] := by
      rw [List.take_add_one, hzi]
      rfl
    refine hs z mz H' sm _ _ (fun pz y H4 s4 r4 => ⟨ys, s4 _ _ hD, by omega, ?_, ys ++ [y], upd_same, by simp; omega, ?_⟩) (fun pz H3 s3 => ?_)
    · intro b u e
      have hb : b ≠ D := ne_of_none e hn
      rw [upd_ne hb]
      exact s4 b u (sm b u e)
    · rw [tk, List.filter_append, List.filter_cons, pz]
      exact paired_snoc (paired_map (fun z y r => hR z y H' _ ys hD (fun b u hb e => by rw [upd_ne hb]; exact s4 b u e) r) hP) (hR z y H4 _ ys (s4 _ _ hD) (fun b u hb e => by rw [upd_ne hb]; exact e) r4)
    · refine ⟨fun b u e => s3 b u (sm b u e), ys, s3 _ _ hD, by omega, ?_⟩
      rw [tk, List.filter_append, List.filter_cons, pz]
      simp only [Bool.false_eq_true, if_false, List.filter_nil, List.append_nil]
      exact paired_map (fun z y r => hR z y H' _ ys hD (fun b u _ e => s3 b u e) r) hP
  · have e : i = zs.length := by omega
    subst e
    refine .inl ⟨hstop H sm, hd H ys sm hD ?_⟩
    rw [List.take_length] at hP
    exact hP
/-- over a list -/
theorem lc_rel {K : PySem.W.Frag} {a : Addr} (hl : SqL K H1 a (zs.map enc)) (hz : zs.length ≤ sizeLine) (hn : H1 D = none) (hR : ∀ z y H H' xs, H D = some (.lst xs) → SameBut D H H' → R z y H → R z y H')
    (hs : ∀ z ∈ zs, ∀ H, L2.Same H1 H → ∀ (Qy : VK) (Qn : Hp → Prop), (p z = true → ∀ y H', L2.Same H H' → R z y H' → Qy y H') → (p z = false → ∀ H', L2.Same H H' → Qn H') →
      g (enc z) (wipe σ vs) H fun σ2 H2 => wipe σ2 vs = wipe σ vs ∧ tt σ2 H2 fun b H3 => if b = true then te σ2 H3 Qy else Qn H3)
    (hd : ∀ H ys, L2.Same H1 H → H D = some (.lst ys) → Paired (fun z y => R z y H) (zs.filter p) ys → Qd H) :
    ∃ W : Nat → Nat → Hp → Prop, (∃ m, W 0 m (upd H1 D (.lst []))) ∧ ∀ i m H, W i m H →
      ((Itl K a).stop i H ∧ Qd H) ∨ ((Itl K a).go i H ∧ ∃ Nx : Hp → Prop, (∀ H', Nx H' → ∃ m', m' < m ∧ W (i + 1) m' H') ∧ ∀ x H', (Itl K a).yld i H x H' → g x (wipe σ vs) H' fun σ2 H2 => wipe σ2 vs = wipe σ vs ∧ tt σ2 H2 fun b H3 =>
        if b = true then te σ2 H3 fun y H4 => ∃ acc, H4 D = some (.lst acc) ∧ acc.length < sizeLine ∧ Nx (upd H4 D (.lst (acc ++ [y]))) else Nx H3) :=
  lc_relJ (Itl K a) (fun i H sm hi => ⟨_, enc zs[i], sm.seq hl, by rw [List.getElem?_map, List.getElem?_eq_getElem hi]; rfl⟩) (fun H sm => ⟨_, sm.seq hl, by rw [List.length_map]; exact Nat.le_refl _⟩)
    (fun i H x H' sm hi y => ⟨y.1, zs[i], List.getElem?_eq_getElem hi, by
      have e := y.2 _ (sm.seq hl)
      rw [List.getElem?_map, List.getElem?_eq_getElem hi] at e
      exact (Option.some.inj e).symm⟩) hz hn hR hs hd
theorem same_seqT {K : PySem.W.Frag} {H H' : Hp} {a : Addr} {xs : List V} (e : L2.Same H H') (h : SqT K H a xs) : SqT K H' a xs := by
  rcases h with (h | ⟨o, h⟩) | h
  · exact .inl (.inl (e _ _ h))
  · exact .inl (.inr ⟨o, e _ _ h⟩)
  · exact .inr h
/-- over a tuple -/
theorem lc_relT {K : PySem.W.Frag} {a : Addr} (hl : SqT K H1 a (zs.map enc)) (hz : zs.length ≤ sizeLine) (hn : H1 D = none) (hR : ∀ z y H H' xs, H D = some (.lst xs) → SameBut D H H' → R z y H → R z y H')
    (hs : ∀ z ∈ zs, ∀ H, L2.Same H1 H → ∀ (Qy : VK) (Qn : Hp → Prop), (p z = true → ∀ y H', L2.Same H H' → R z y H' → Qy y H') → (p z = false → ∀ H', L2.Same H H' → Qn H') →
      g (enc z) (wipe σ vs) H fun σ2 H2 => wipe σ2 vs = wipe σ vs ∧ tt σ2 H2 fun b H3 => if b = true then te σ2 H3 Qy else Qn H3)
    (hd : ∀ H ys, L2.Same H1 H → H D = some (.lst ys) → Paired (fun z y => R z y H) (zs.filter p) ys → Qd H) :
    ∃ W : Nat → Nat → Hp → Prop, (∃ m, W 0 m (upd H1 D (.lst []))) ∧ ∀ i m H, W i m H →
      ((Itt K a).stop i H ∧ Qd H) ∨ ((Itt K a).go i H ∧ ∃ Nx : Hp → Prop, (∀ H', Nx H' → ∃ m', m' < m ∧ W (i + 1) m' H') ∧ ∀ x H', (Itt K a).yld i H x H' → g x (wipe σ vs) H' fun σ2 H2 => wipe σ2 vs = wipe σ vs ∧ tt σ2 H2 fun b H3 =>
        if b = true then te σ2 H3 fun y H4 => ∃ acc, H4 D = some (.lst acc) ∧ acc.length < sizeLine ∧ Nx (upd H4 D (.lst (acc ++ [y]))) else Nx H3) :=
  lc_relJ (Itt K a) (fun i H sm hi => ⟨_, enc zs[i], same_seqT sm hl, by rw [List.getElem?_map, List.getElem?_eq_getElem hi]; rfl⟩) (fun H sm => ⟨_, same_seqT sm hl, by rw [List.length_map]; exact Nat.le_refl _⟩)
    (fun i H x H' sm hi y => ⟨y.1, zs[i], List.getElem?_eq_getElem hi, by
      have e := y.2 _ (same_seqT sm hl)
      rw [List.getElem?_map, List.getElem?_eq_getElem hi] at e
      exact (Option.some.inj e).symm⟩) hz hn hR hs hd
/-- over a dict's keys, the dict locked -/
theorem lc_relK {d : Addr} {od : Obj} {kf : α → Key × V} (hl : H1 d = some (.frz od (.dK (zs.map kf)))) (hz : zs.length ≤ sizeLine) (hn : H1 D = none) (hR : ∀ z y H H' xs, H D = some (.lst xs) → SameBut D H H' → R z y H → R z y H')
    (hs : ∀ z ∈ zs, ∀ H, L2.Same H1 H → ∀ (Qy : VK) (Qn : Hp → Prop), (p z = true → ∀ y H', L2.Same H H' → R z y H' → Qy y H') → (p z = false → ∀ H', L2.Same H H' → Qn H') →
      g (kV (kf z).1) (wipe σ vs) H fun σ2 H2 => wipe σ2 vs = wipe σ vs ∧ tt σ2 H2 fun b H3 => if b = true then te σ2 H3 Qy else Qn H3)
    (hd : ∀ H ys, L2.Same H1 H → H D = some (.lst ys) → Paired (fun z y => R z y H) (zs.filter p) ys → Qd H) :
    ∃ W : Nat → Nat → Hp → Prop, (∃ m, W 0 m (upd H1 D (.lst []))) ∧ ∀ i m H, W i m H →
      ((Itk d od (zs.map kf)).stop i H ∧ Qd H) ∨ ((Itk d od (zs.map kf)).go i H ∧ ∃ Nx : Hp → Prop, (∀ H', Nx H' → ∃ m', m' < m ∧ W (i + 1) m' H') ∧ ∀ x H', (Itk d od (zs.map kf)).yld i H x H' → g x (wipe σ vs) H' fun σ2 H2 => wipe σ2 vs = wipe σ vs ∧ tt σ2 H2 fun b H3 =>
        if b = true then te σ2 H3 fun y H4 => ∃ acc, H4 D = some (.lst acc) ∧ acc.length < sizeLine ∧ Nx (upd H4 D (.lst (acc ++ [y]))) else Nx H3) :=
  lc_relJ (enc := fun z => kV (kf z).1) (Itk d od (zs.map kf)) (fun i H sm hi => ⟨sm _ _ hl, by rw [List.length_map]; exact hi⟩) (fun H sm => ⟨sm _ _ hl, by rw [List.length_map]; exact Nat.le_refl _⟩)
    (fun i H x H' sm hi y => ⟨y.1, zs[i], List.getElem?_eq_getElem hi, by
      obtain ⟨k, v, e, ex⟩ := y.2
      rw [List.getElem?_map, List.getElem?_eq_getElem hi] at e
      have e2 : kf zs[i] = (k, v) := Option.some.inj e
      show x = kV (kf zs[i]).1
      rw [e2]
      exact ex⟩) hz hn hR hs hd
end
/-- a for over a dict's keys, the dict locked; Pv by the turn -/
theorem for_keys {α : Type} {d : Addr} {od : Obj} {zs : List α} {kf : α → Key × V} {g : TG} {tb : TS} {Dn : Ends} {σ : L2.St} {H : Hp} (Pv : Nat → L2.St → Hp → Prop) (h0 : Pv 0 σ H)
    (hl : ∀ i σ H, i ≤ zs.length → Pv i σ H → H d = some (.frz od (.dK (zs.map kf))))
    (hs : ∀ i z σ H, zs[i]? = some z → Pv i σ H → g (kV (kf z).1) σ H fun σ2 H2 => tb { Dn with nx := Pv (i + 1), ct := Pv (i + 1), bk := Dn.nx } σ2 H2)
    (hd : ∀ σ H, Pv zs.length σ H → Dn.nx σ H) :
    ∃ W : Nat → Nat → L2.St → Hp → Prop, (∃ m, W 0 m σ H) ∧ ∀ i m σ H, W i m σ H →
      ((Itk d od (zs.map kf)).stop i H ∧ Dn.nx σ H) ∨ ((Itk d od (zs.map kf)).go i H ∧ ∃ N : L2.St → Hp → Prop, (∀ σ' H', N σ' H' → ∃ m', m' < m ∧ W (i + 1) m' σ' H') ∧ ∀ x H', (Itk d od (zs.map kf)).yld i H x H' → g x σ H' fun σ2 H2 => tb { Dn with nx := N, ct := N, bk := Dn.nx } σ2 H2) := by
  refine ⟨fun i m σ H => m = zs.length - i ∧ i ≤ zs.length ∧ Pv i σ H, ⟨zs.length, by simp, Nat.zero_le _, h0⟩, ?_⟩
  rintro i m σ H ⟨rfl, hi, p⟩
  have q := hl i σ H hi p
  by_cases hlt : i < zs.length
  · refine .inr ⟨⟨q, by rw [List.length_map]; exact hlt⟩, Pv (i + 1), fun σ' H' p' => ⟨zs.length - (i + 1), by omega, rfl, hlt, p'⟩, fun x H' y => ?_⟩
    obtain ⟨e, k, v, e2, ex⟩ := y
    subst e
    rw [List.getElem?_map, List.getElem?_eq_getElem hlt] at e2
    have e3 : kf zs[i] = (k, v) := Option.some.inj e2
    have ex' : x = kV (kf zs[i]).1 := by rw [e3]; exact ex
    rw [ex']
    exact hs i zs[i] σ H' (List.getElem?_eq_getElem hlt) p
  · have e : i = zs.length := by omega
    subst e
    exact .inl ⟨⟨q, by rw [List.length_map]; exact Nat.le_refl _⟩, hd σ H p⟩

/-! ### sorted(a list of tuples of three ints) -/
section
variable {X : Cx}
/-- sorted by data: the items are the values val z, which read as enc z -/
def rSortedD (K : PySem.W.Frag) : List V → Hp → VK → Prop := fun vs H Q => ∃ (a : Addr) (α : Type) (zs : List α) (val : α → V) (enc : α → PyData), vs = [V.ref a] ∧ SqL K H a (zs.map val) ∧ (∀ z ∈ zs, Dp K H (val z) (enc z)) ∧
  PySem.W.AllAlike (zs.map enc) ∧ PySem.W.Sortable (zs.map enc) ∧ (∀ z ∈ zs, (enc z).depth ≤ 60) ∧
  ∀ p, H p = none → Q (.ref p) (upd H p (.lst ((zs.mergeSort (PySem.W.dataLe false enc)).map val)))
theorem vals_each {α : Type} {val : α → V} : ∀ {zs : List α} {us : List Value}, Vals (zs.map val) us → PySem.W.EachIs (fun u z => RelV (val z) u) us zs
  | [], _, h => by
    have h' : Vals [] _ := h
    cases h'
    exact .nil
  | z :: zs, _, h => by
    have h' : Vals (val z :: zs.map val) _ := h
    cases h' with
    | cons r t => exact .cons r (vals_each t)
theorem each_vals {α : Type} {val : α → V} : ∀ {zs : List α} {us : List Value}, PySem.W.EachIs (fun u z => RelV (val z) u) us zs → Vals (zs.map val) us
  | _, _, .nil => .nil
  | _, _, .cons r t => .cons r (each_vals t)
theorem cr_sortedD {k : Nat} (hr : Room k X.A) : CallR X (.builtin "sorted") (rSortedD X.K) := by
  intro pins s σ H vs us Q I r h
  obtain ⟨a, α, zs, val, enc, rfl, hs, hp, hal, hk, hdp, q⟩ := h
  obtain ⟨its, rv, hl, hz⟩ := I.list hs
  rw [Vals.ref1 r]
  rw [List.length_map] at hz
  have he := vals_each rv
  have hu := hr.units
  refine PySem.W.sorted_data (R := fun u z => RelV (val z) u) (enc := enc) hl.isList he ?_ hal hk hz (fun z hzm => ?_) fun out hlen hout => ?_
  · have : ∀ {us : List Value} {zs : List α}, (∀ z ∈ zs, Dp X.K H (val z) (enc z)) → PySem.W.EachIs (fun u z => RelV (val z) u) us zs → PySem.W.EachIs (fun u z => ∃ as, Reads s.heap u (enc z) as) us zs := by
      intro us zs hp he
      induction he with
      | nil => exact .nil
      | cons r t ih =>
        exact .cons (Dp.reads I _ _ _ (hp _ List.mem_cons_self) r) (ih fun z hz => hp z (List.mem_cons_of_mem _ hz))
    exact this hp he
  · have := hdp z hzm
    omega
  · obtain ⟨ep, he'⟩ := PyProof.Rows.sortedAll_at s.heap its out.toArray
    refine ⟨.ref _, upd H (s.heap.objs.size + 1) (.lst ((zs.mergeSort (PySem.W.dataLe false enc)).map val)), I.laid (t' := s.toks) (fun _ _ => PyProof.Rows.sortedAll_old) (Nat.le_succ _) ⟨?_, out, ep, each_vals hout, he'⟩, rfl, q _ (I.hok.fresh (Nat.le_succ _))⟩
    rw [List.length_map, List.length_mergeSort]
    exact hz
end
theorem dataLt_iii (x y z x' y' z' : Int) : PySem.W.dataLt (.tuple [.int x, .int y, .int z]) (.tuple [.int x', .int y', .int z']) = decide (x < x' ∨ (x = x' ∧ (y < y' ∨ (y = y' ∧ z < z')))) := by
  rw [PySem.W.dataLt_tuple, PySem.W.dataLt_cons (by simp [PySem.W.alike]), PySem.W.dataLt_cons (by simp [PySem.W.alike]), PySem.W.dataLt_cons (by simp [PySem.W.alike]), PySem.W.dataLt_int, PySem.W.dataLt_int, PySem.W.dataLt_int]
  have e : PyProof.Rows.lexLt PyProof.Rows.itemOrd (PySem.W.keyToksAll []) (PySem.W.keyToksAll []) = false := PyProof.Rows.lex_irrefl _
  rw [e]
  simp only [PyData.eqv, beq_iff_eq]
  by_cases h1 : x = x' <;> by_cases h2 : y = y' <;> by_cases h3 : z = z' <;> simp [h1, h2, h3]
/-! ### constants of the module -/
theorem pe_gs {X : Cx} {x z : Str} {pos : Pos} (h : ∃ t, X.mg x = some (.str z t)) (hg : Gl X x) (hd : (x == ("__debug__" : Str)) = false := by decide) : PE X (.Name x pos) (tC (.str z)) := by
  obtain ⟨t, e⟩ := h
  exact pe_glob (v := .str z) hg e ⟨_, rfl⟩ hd
theorem pe_gi {X : Cx} {x : Str} {z : Int} {pos : Pos} (h : ∃ t, X.mg x = some (.int z t)) (hg : Gl X x) (hd : (x == ("__debug__" : Str)) = false := by decide) : PE X (.Name x pos) (tC (.int z)) := by
  obtain ⟨t, e⟩ := h
  exact pe_glob (v := .int z) hg e ⟨_, rfl⟩ hd
/-! ### a for over a list, by its items -/
theorem for_zs {α : Type} {K : PySem.W.Frag} {a : Addr} {zs : List α} {enc : α → V} {g : TG} {tb : TS} {D : Ends} {σ : L2.St} {H : Hp} (Pv : Nat → L2.St → Hp → Prop) (h0 : Pv 0 σ H) (hl : ∀ i σ H, i ≤ zs.length → Pv i σ H → SqL K H a (zs.map enc))
    (hs : ∀ i z σ H, zs[i]? = some z → Pv i σ H → g (enc z) σ H fun σ2 H2 => tb { D with nx := Pv (i + 1), ct := Pv (i + 1), bk := D.nx } σ2 H2) (hd : ∀ σ H, Pv zs.length σ H → D.nx σ H) :
    ∃ W : Nat → Nat → L2.St → Hp → Prop, (∃ m, W 0 m σ H) ∧ ∀ i m σ H, W i m σ H →
      ((Itl K a).stop i H ∧ D.nx σ H) ∨ ((Itl K a).go i H ∧ ∃ N : L2.St → Hp → Prop, (∀ σ' H', N σ' H' → ∃ m', m' < m ∧ W (i + 1) m' σ' H') ∧ ∀ x H', (Itl K a).yld i H x H' → g x σ H' fun σ2 H2 => tb { D with nx := N, ct := N, bk := D.nx } σ2 H2) :=
  for_list (K := K) (a := a) (xs := zs.map enc) Pv h0 (fun i σ H hi p => hl i σ H (by rw [List.length_map] at hi; exact hi) p) (fun i y σ H hi p => by
    rw [List.getElem?_map] at hi
    obtain ⟨z, hz, e⟩ := Option.map_eq_some_iff.mp hi
    subst e
    exact hs i z σ H hz p) (fun σ H p => hd σ H (by rw [List.length_map] at p; exact p))
/-! ### min of three, a dict's pop -/
theorem call_min3 {X : Cx} (hc : X.calm = true) : CallR X (.builtin "min") (fun xs H Q => ∃ i j k, xs = [.int i, .int j, .int k] ∧ Q (.int (least3 i j k)) H) := by
  intro pins s σ H xs us Q I r h
  obtain ⟨i, j, k, rfl, q⟩ := h
  cases r with
  | cons r1 r =>
    cases r with
    | cons r2 r =>
      cases r with
      | cons r3 r =>
        cases r
        obtain ⟨t1, rfl⟩ := r1
        obtain ⟨t2, rfl⟩ := r2
        obtain ⟨t3, rfl⟩ := r3
        refine PySem.min_three_ints (I.ok.hd hc) fun h' tk hk => ⟨.int (least3 i j k), H, I.kept hk, ?_, q⟩
        unfold least3 imin
        by_cases h1 : j < i
        · rw [if_pos h1, if_pos h1]
          by_cases h2 : k < j
          · rw [if_pos h2, if_pos h2]
            exact ⟨_, rfl⟩
          · rw [if_neg h2, if_neg h2]
            exact ⟨_, rfl⟩
        · rw [if_neg h1, if_neg h1]
          by_cases h2 : k < i
          · rw [if_pos h2, if_pos h2]
            exact ⟨_, rfl⟩
          · rw [if_neg h2, if_neg h2]
            exact ⟨_, rfl⟩
end FB

set_option maxRecDepth 100000
namespace FB
open PySem L2
/-! ### the text by places -/
def top (i : Nat) : Stmt := PySem.Challenge.pw_fairbook_k10_book.main.body.getD i (.Pass ⟨0, 0, 0, 0⟩)
abbrev s_O_init : Stmt := inClass (top 13) 0
abbrev s_O_show : Stmt := inClass (top 13) 1
abbrev s_O_suits : Stmt := inClass (top 13) 2
abbrev s_O_rank : Stmt := inClass (top 13) 3
abbrev s_other_side : Stmt := top 14
abbrev s_is_count : Stmt := top 15
abbrev s_look_order : Stmt := top 16
abbrev s_can_fill : Stmt := top 18
abbrev s_meet : Stmt := top 19
abbrev s_matched : Stmt := top 20
abbrev s_place : Stmt := top 21
abbrev s_cancel : Stmt := top 22
abbrev s_change : Stmt := top 23
abbrev s_B_init : Stmt := inClass (top 25) 0
abbrev s_B_row : Stmt := inClass (top 25) 1
abbrev s_B_resting : Stmt := inClass (top 25) 2
abbrev s_B_depth : Stmt := inClass (top 25) 3
abbrev s_B_need : Stmt := inClass (top 25) 4
abbrev s_B_left : Stmt := inClass (top 25) 5
abbrev s_B_shown : Stmt := inClass (top 25) 6
abbrev s_B_last : Stmt := inClass (top 25) 7
abbrev s_B_volume : Stmt := inClass (top 25) 8
abbrev s_B_is_calling : Stmt := inClass (top 25) 9
abbrev s_B_put : Stmt := inClass (top 25) 10
abbrev s_B_trade : Stmt := inClass (top 25) 11
abbrev s_call : Stmt := top 27
abbrev s_wanted : Stmt := top 28
abbrev s_call_price : Stmt := top 29
abbrev s_uncross : Stmt := top 30
abbrev s_l_cell : Stmt := top 32
abbrev s_l_mix : Stmt := top 33
abbrev s_l_new : Stmt := top 34
abbrev s_l_first : Stmt := top 35
abbrev s_l_side : Stmt := top 36
abbrev s_l_put : Stmt := top 37
abbrev s_l_show : Stmt := top 38
abbrev s_l_gone : Stmt := top 39
abbrev s_l_suits : Stmt := top 40
abbrev s_l_find : Stmt := top 41
abbrev s_l_good : Stmt := top 42
abbrev s_l_meet : Stmt := top 43
abbrev s_l_place : Stmt := top 44
abbrev s_l_cancel : Stmt := top 45
abbrev s_l_change : Stmt := top 46
abbrev s_l_wanted : Stmt := top 47
abbrev s_l_call_price : Stmt := top 48
abbrev s_l_uncross : Stmt := top 49
abbrev s_l_call : Stmt := top 50
abbrev s_l_price : Stmt := top 51
abbrev s_l_deed : Stmt := top 52
abbrev s_l_done : Stmt := top 53
abbrev s_l_asked : Stmt := top 54
abbrev s_l_is : Stmt := top 55
abbrev s_l_same : Stmt := top 56
abbrev s_law : Stmt := top 57
/-! ### what the walks lean on -/
structure Tx (K : PySem.W.Frag) (mg : Str → Option Value) : Prop where
  f_O_init : FD K "__init__" "Order.__init__" s_O_init (He.ma K (He.ga K "Order") "__init__")
  f_O_show : FD K "show" "Order.show" s_O_show (He.ma K (He.ga K "Order") "show")
  f_O_suits : FD K "suits" "Order.suits" s_O_suits (He.ma K (He.ga K "Order") "suits")
  f_O_rank : FD K "rank" "Order.rank" s_O_rank (He.ma K (He.ga K "Order") "rank")
  f_other_side : FD K "other_side" "other_side" s_other_side (He.ga K "other_side")
  f_is_count : FD K "is_count" "is_count" s_is_count (He.ga K "is_count")
  f_look_order : FD K "look_order" "look_order" s_look_order (He.ga K "look_order")
  f_can_fill : FD K "can_fill" "can_fill" s_can_fill (He.ga K "can_fill")
  f_meet : FD K "meet" "meet" s_meet (He.ga K "meet")
  f_matched : FD K "matched" "matched" s_matched (He.ga K "matched")
  f_place : FD K "place" "place" s_place (He.ga K "place")
  f_cancel : FD K "cancel" "cancel" s_cancel (He.ga K "cancel")
  f_change : FD K "change" "change" s_change (He.ga K "change")
  f_B_init : FD K "__init__" "Book.__init__" s_B_init (He.ma K (He.ga K "Book") "__init__")
  f_B_row : FD K "row" "Book.row" s_B_row (He.ma K (He.ga K "Book") "row")
  f_B_resting : FD K "resting" "Book.resting" s_B_resting (He.ma K (He.ga K "Book") "resting")
  f_B_depth : FD K "depth" "Book.depth" s_B_depth (He.ma K (He.ga K "Book") "depth")
  f_B_need : FD K "need" "Book.need" s_B_need (He.ma K (He.ga K "Book") "need")
  f_B_left : FD K "left" "Book.left" s_B_left (He.ma K (He.ga K "Book") "left")
  f_B_shown : FD K "shown" "Book.shown" s_B_shown (He.ma K (He.ga K "Book") "shown")
  f_B_last : FD K "last" "Book.last" s_B_last (He.ma K (He.ga K "Book") "last")
  f_B_volume : FD K "volume" "Book.volume" s_B_volume (He.ma K (He.ga K "Book") "volume")
  f_B_is_calling : FD K "is_calling" "Book.is_calling" s_B_is_calling (He.ma K (He.ga K "Book") "is_calling")
  f_B_put : FD K "put" "Book.put" s_B_put (He.ma K (He.ga K "Book") "put")
  f_B_trade : FD K "trade" "Book.trade" s_B_trade (He.ma K (He.ga K "Book") "trade")
  f_call : FD K "call" "call" s_call (He.ga K "call")
  f_wanted : FD K "wanted" "wanted" s_wanted (He.ga K "wanted")
  f_call_price : FD K "call_price" "call_price" s_call_price (He.ga K "call_price")
  f_uncross : FD K "uncross" "uncross" s_uncross (He.ga K "uncross")
  f_l_cell : FD K "_law_cell" "_law_cell" s_l_cell (He.ga K "_law_cell")
  f_l_mix : FD K "_law_mix" "_law_mix" s_l_mix (He.ga K "_law_mix")
  f_l_new : FD K "_law_new" "_law_new" s_l_new (He.ga K "_law_new")
  f_l_first : FD K "_law_first" "_law_first" s_l_first (He.ga K "_law_first")
  f_l_side : FD K "_law_side" "_law_side" s_l_side (He.ga K "_law_side")
  f_l_put : FD K "_law_put" "_law_put" s_l_put (He.ga K "_law_put")
  f_l_show : FD K "_law_show" "_law_show" s_l_show (He.ga K "_law_show")
  f_l_gone : FD K "_law_gone" "_law_gone" s_l_gone (He.ga K "_law_gone")
  f_l_suits : FD K "_law_suits" "_law_suits" s_l_suits (He.ga K "_law_suits")
  f_l_find : FD K "_law_find" "_law_find" s_l_find (He.ga K "_law_find")
  f_l_good : FD K "_law_good" "_law_good" s_l_good (He.ga K "_law_good")
  f_l_meet : FD K "_law_meet" "_law_meet" s_l_meet (He.ga K "_law_meet")
  f_l_place : FD K "_law_place" "_law_place" s_l_place (He.ga K "_law_place")
  f_l_cancel : FD K "_law_cancel" "_law_cancel" s_l_cancel (He.ga K "_law_cancel")
  f_l_change : FD K "_law_change" "_law_change" s_l_change (He.ga K "_law_change")
  f_l_wanted : FD K "_law_wanted" "_law_wanted" s_l_wanted (He.ga K "_law_wanted")
  f_l_call_price : FD K "_law_call_price" "_law_call_price" s_l_call_price (He.ga K "_law_call_price")
  f_l_uncross : FD K "_law_uncross" "_law_uncross" s_l_uncross (He.ga K "_law_uncross")
  f_l_call : FD K "_law_call" "_law_call" s_l_call (He.ga K "_law_call")
  f_l_price : FD K "_law_price" "_law_price" s_l_price (He.ga K "_law_price")
  f_l_deed : FD K "_law_deed" "_law_deed" s_l_deed (He.ga K "_law_deed")
  f_l_done : FD K "_law_done" "_law_done" s_l_done (He.ga K "_law_done")
  f_l_asked : FD K "_law_asked" "_law_asked" s_l_asked (He.ga K "_law_asked")
  f_l_is : FD K "_law_is" "_law_is" s_l_is (He.ga K "_law_is")
  f_l_same : FD K "_law_same" "_law_same" s_l_same (He.ga K "_law_same")
  f_law : FD K "law" "law" s_law (He.ga K "law")
  g_BadOrder : mg "BadOrder" = some (.ref (He.ga K "BadOrder"))
  g_Book : mg "Book" = some (.ref (He.ga K "Book"))
  g_BookError : mg "BookError" = some (.ref (He.ga K "BookError"))
  g_NotNow : mg "NotNow" = some (.ref (He.ga K "NotNow"))
  g_NotThere : mg "NotThere" = some (.ref (He.ga K "NotThere"))
  g_Order : mg "Order" = some (.ref (He.ga K "Order"))
  g_l_asked : mg "_law_asked" = some (.ref (He.ga K "_law_asked"))
  g_l_call : mg "_law_call" = some (.ref (He.ga K "_law_call"))
  g_l_call_price : mg "_law_call_price" = some (.ref (He.ga K "_law_call_price"))
  g_l_cancel : mg "_law_cancel" = some (.ref (He.ga K "_law_cancel"))
  g_l_cell : mg "_law_cell" = some (.ref (He.ga K "_law_cell"))
  g_l_change : mg "_law_change" = some (.ref (He.ga K "_law_change"))
  g_l_deed : mg "_law_deed" = some (.ref (He.ga K "_law_deed"))
  g_l_done : mg "_law_done" = some (.ref (He.ga K "_law_done"))
  g_l_find : mg "_law_find" = some (.ref (He.ga K "_law_find"))
  g_l_first : mg "_law_first" = some (.ref (He.ga K "_law_first"))
  g_l_gone : mg "_law_gone" = some (.ref (He.ga K "_law_gone"))
  g_l_good : mg "_law_good" = some (.ref (He.ga K "_law_good"))
  g_l_is : mg "_law_is" = some (.ref (He.ga K "_law_is"))
  g_l_meet : mg "_law_meet" = some (.ref (He.ga K "_law_meet"))
  g_l_mix : mg "_law_mix" = some (.ref (He.ga K "_law_mix"))
  g_l_new : mg "_law_new" = some (.ref (He.ga K "_law_new"))
  g_l_place : mg "_law_place" = some (.ref (He.ga K "_law_place"))
  g_l_price : mg "_law_price" = some (.ref (He.ga K "_law_price"))
  g_l_put : mg "_law_put" = some (.ref (He.ga K "_law_put"))
  g_l_same : mg "_law_same" = some (.ref (He.ga K "_law_same"))
  g_l_show : mg "_law_show" = some (.ref (He.ga K "_law_show"))
  g_l_side : mg "_law_side" = some (.ref (He.ga K "_law_side"))
  g_l_suits : mg "_law_suits" = some (.ref (He.ga K "_law_suits"))
  g_l_uncross : mg "_law_uncross" = some (.ref (He.ga K "_law_uncross"))
  g_l_wanted : mg "_law_wanted" = some (.ref (He.ga K "_law_wanted"))
  g_call : mg "call" = some (.ref (He.ga K "call"))
  g_call_price : mg "call_price" = some (.ref (He.ga K "call_price"))
  g_can_fill : mg "can_fill" = some (.ref (He.ga K "can_fill"))
  g_cancel : mg "cancel" = some (.ref (He.ga K "cancel"))
  g_change : mg "change" = some (.ref (He.ga K "change"))
  g_is_count : mg "is_count" = some (.ref (He.ga K "is_count"))
  g_law : mg "law" = some (.ref (He.ga K "law"))
  g_look_order : mg "look_order" = some (.ref (He.ga K "look_order"))
  g_matched : mg "matched" = some (.ref (He.ga K "matched"))
  g_meet : mg "meet" = some (.ref (He.ga K "meet"))
  g_other_side : mg "other_side" = some (.ref (He.ga K "other_side"))
  g_place : mg "place" = some (.ref (He.ga K "place"))
  g_uncross : mg "uncross" = some (.ref (He.ga K "uncross"))
  g_wanted : mg "wanted" = some (.ref (He.ga K "wanted"))
  z_sorted : mg "sorted" = none
  z_sum : mg "sum" = none
  z_min : mg "min" = none
  z_abs : mg "abs" = none
  z_bool : mg "bool" = none
  z_len : mg "len" = none
  z_range : mg "range" = none
  z_int : mg "int" = none
  z_isinstance : mg "isinstance" = none
  z_tuple : mg "tuple" = none
  z_ValueError : mg "ValueError" = none
  k_BUY : ∃ t, mg "BUY" = some (.str "buy" t)
  k_SELL : ∃ t, mg "SELL" = some (.str "sell" t)
  k_REST : ∃ t, mg "REST" = some (.str "rest" t)
  k_MOST_COUNT : ∃ t, mg "MOST_COUNT" = some (.int 10000 t)
  k_MOST_PRICE : ∃ t, mg "MOST_PRICE" = some (.int 1000000000 t)
  clO : Cls K (He.ga K "Order")
  mkO : Mk K (He.ga K "Order") (He.ma K (He.ga K "Order") "__init__")
  nO_number : NoAttr K (He.ga K "Order") "number"
  nO_owner : NoAttr K (He.ga K "Order") "owner"
  nO_side : NoAttr K (He.ga K "Order") "side"
  nO_price : NoAttr K (He.ga K "Order") "price"
  nO_rest : NoAttr K (He.ga K "Order") "rest"
  nO_shows : NoAttr K (He.ga K "Order") "shows"
  nO_part : NoAttr K (He.ga K "Order") "part"
  nO_place : NoAttr K (He.ga K "Order") "place"
  clB : Cls K (He.ga K "Book")
  mkB : Mk K (He.ga K "Book") (He.ma K (He.ga K "Book") "__init__")
  nB_orders : NoAttr K (He.ga K "Book") "orders"
  nB_many : NoAttr K (He.ga K "Book") "many"
  nB_places : NoAttr K (He.ga K "Book") "places"
  nB_price : NoAttr K (He.ga K "Book") "price"
  nB_traded : NoAttr K (He.ga K "Book") "traded"
  nB_calling : NoAttr K (He.ga K "Book") "calling"
  m_O_show : Meth K (He.ga K "Order") "show" (He.ma K (He.ga K "Order") "show")
  m_O_suits : Meth K (He.ga K "Order") "suits" (He.ma K (He.ga K "Order") "suits")
  m_O_rank : Meth K (He.ga K "Order") "rank" (He.ma K (He.ga K "Order") "rank")
  m_B_row : Meth K (He.ga K "Book") "row" (He.ma K (He.ga K "Book") "row")
  m_B_resting : Meth K (He.ga K "Book") "resting" (He.ma K (He.ga K "Book") "resting")
  m_B_depth : Meth K (He.ga K "Book") "depth" (He.ma K (He.ga K "Book") "depth")
  m_B_need : Meth K (He.ga K "Book") "need" (He.ma K (He.ga K "Book") "need")
  m_B_left : Meth K (He.ga K "Book") "left" (He.ma K (He.ga K "Book") "left")
  m_B_shown : Meth K (He.ga K "Book") "shown" (He.ma K (He.ga K "Book") "shown")
  m_B_last : Meth K (He.ga K "Book") "last" (He.ma K (He.ga K "Book") "last")
  m_B_volume : Meth K (He.ga K "Book") "volume" (He.ma K (He.ga K "Book") "volume")
  m_B_is_calling : Meth K (He.ga K "Book") "is_calling" (He.ma K (He.ga K "Book") "is_calling")
  m_B_put : Meth K (He.ga K "Book") "put" (He.ma K (He.ga K "Book") "put")
  m_B_trade : Meth K (He.ga K "Book") "trade" (He.ma K (He.ga K "Book") "trade")
  e_BadOrder : PySem.W.excIn K (He.ga K "BadOrder") He.veBase "ValueError.__new__" = true ∧ PySem.W.keepIn K (.ref (He.ga K "BadOrder")) = true ∧ PySem.W.subIn K (.ref (He.ga K "BadOrder")) (.type "BaseException") = some true ∧ PySem.W.typeIn K (.ref (He.ga K "BadOrder")) = some (.type "type")
  x_BadOrder : PySem.W.exmOne K (.ref (He.ga K "BadOrder")) (.ref (He.ga K "BookError")) = some true
  e_NotThere : PySem.W.excIn K (He.ga K "NotThere") He.veBase "ValueError.__new__" = true ∧ PySem.W.keepIn K (.ref (He.ga K "NotThere")) = true ∧ PySem.W.subIn K (.ref (He.ga K "NotThere")) (.type "BaseException") = some true ∧ PySem.W.typeIn K (.ref (He.ga K "NotThere")) = some (.type "type")
  x_NotThere : PySem.W.exmOne K (.ref (He.ga K "NotThere")) (.ref (He.ga K "BookError")) = some true
  e_NotNow : PySem.W.excIn K (He.ga K "NotNow") He.veBase "ValueError.__new__" = true ∧ PySem.W.keepIn K (.ref (He.ga K "NotNow")) = true ∧ PySem.W.subIn K (.ref (He.ga K "NotNow")) (.type "BaseException") = some true ∧ PySem.W.typeIn K (.ref (He.ga K "NotNow")) = some (.type "type")
  x_NotNow : PySem.W.exmOne K (.ref (He.ga K "NotNow")) (.ref (He.ga K "BookError")) = some true
  t_WAYS : ∀ H : Hp, SqT K H (He.ga K "WAYS") [.str "rest", .str "now", .str "whole"]
  g_WAYS : mg "WAYS" = some (.ref (He.ga K "WAYS"))
  i_BadOrder : ExcC K (He.ga K "BadOrder")
  i_BadOrder_BadOrder : PySem.W.kitOne K (.ref (He.ga K "BadOrder")) (.ref (He.ga K "BadOrder")) = some true
  i_BadOrder_NotThere : PySem.W.kitOne K (.ref (He.ga K "BadOrder")) (.ref (He.ga K "NotThere")) = some false
  i_BadOrder_NotNow : PySem.W.kitOne K (.ref (He.ga K "BadOrder")) (.ref (He.ga K "NotNow")) = some false
  i_BadOrder_VE : PySem.W.kitOne K (.ref (He.ga K "BadOrder")) (.type "ValueError") = some true
  i_NotThere : ExcC K (He.ga K "NotThere")
  i_NotThere_BadOrder : PySem.W.kitOne K (.ref (He.ga K "NotThere")) (.ref (He.ga K "BadOrder")) = some false
  i_NotThere_NotThere : PySem.W.kitOne K (.ref (He.ga K "NotThere")) (.ref (He.ga K "NotThere")) = some true
  i_NotThere_NotNow : PySem.W.kitOne K (.ref (He.ga K "NotThere")) (.ref (He.ga K "NotNow")) = some false
  i_NotThere_VE : PySem.W.kitOne K (.ref (He.ga K "NotThere")) (.type "ValueError") = some true
  i_NotNow : ExcC K (He.ga K "NotNow")
  i_NotNow_BadOrder : PySem.W.kitOne K (.ref (He.ga K "NotNow")) (.ref (He.ga K "BadOrder")) = some false
  i_NotNow_NotThere : PySem.W.kitOne K (.ref (He.ga K "NotNow")) (.ref (He.ga K "NotThere")) = some false
  i_NotNow_NotNow : PySem.W.kitOne K (.ref (He.ga K "NotNow")) (.ref (He.ga K "NotNow")) = some true
  i_NotNow_VE : PySem.W.kitOne K (.ref (He.ga K "NotNow")) (.type "ValueError") = some true
end FB

set_option maxRecDepth 100000
set_option maxHeartbeats 4000000
/-! How orders and the book stand in the heap; their fields read and written. -/
namespace FB
open PySem PySem.Spec PyProof.Rows L2

def optV : Option Int → V
  | none => .non
  | some i => .int i
abbrev CO (K : PySem.W.Frag) : Addr := He.ga K "Order"
abbrev CB (K : PySem.W.Frag) : Addr := He.ga K "Book"
/-- an order's attributes, in the order in which __init__ stores them -/
def ordF (o : Ord) : List (Str × V) := [("number", .int o.num), ("owner", .int o.own), ("side", .str (sideStr o.buy)), ("price", optV o.price), ("rest", .int o.rest), ("shows", optV o.shows), ("part", .int o.part), ("place", .int o.place)]
/-- the book's -/
def bkF (d : Addr) (B : Bk) : List (Str × V) := [("orders", .ref d), ("many", .int B.many), ("places", .int B.places), ("price", optV B.last), ("traded", .int B.traded), ("calling", .bl B.calling)]
def OrdAt (K : PySem.W.Frag) (H : Hp) (o : Ord) : Prop := ∃ dx, H o.ad = some (.ins (CO K) dx (ordF o))
/-- an entry of the dict of orders -/
def entry (o : Ord) : Key × V := (Sum.inl o.num, V.ref o.ad)
structure BookAt (K : PySem.W.Frag) (H : Hp) (b d : Addr) (B : Bk) : Prop where
  bk : ∃ dx, H b = some (.ins (CB K) dx (bkF d B))
  dc : H d = some (.dK (B.ords.map entry))
  os : ∀ o ∈ B.ords, OrdAt K H o
  nda : (B.ords.map (·.ad)).Nodup
  ndn : (B.ords.map (·.num)).Nodup
def isIns : HO → Bool
  | .ins _ _ _ => true
  | _ => false
/-- all that stood is as it was, but instances and what stands at d -/
def Kd (d : Addr) (H H' : Hp) : Prop := ∀ a x, H a = some x → isIns x = false → a ≠ d → H' a = some x
theorem Kd.refl (d : Addr) (H : Hp) : Kd d H H := fun _ _ h _ _ => h
theorem Kd.trans {d : Addr} {H H1 H2 : Hp} (a : Kd d H H1) (b : Kd d H1 H2) : Kd d H H2 := fun c x h i n => b c x (a c x h i n) i n
theorem Kd.of {d : Addr} {H H' : Hp} (s : L2.Same H H') : Kd d H H' := fun c x h _ _ => s c x h
/-- all but what stands at p is as it was -/
abbrev SB := SameBut
theorem SameBut.refl (p : Addr) (H : Hp) : SameBut p H H := fun _ _ _ h => h
theorem sb_upd {H : Hp} {p : Addr} {o : HO} : SameBut p H (upd H p o) := fun b u hb e => by rw [upd_ne hb]; exact e
theorem SameBut.of {p : Addr} {H H' : Hp} (s : L2.Same H H') : SameBut p H H' := fun b u _ e => s b u e
theorem OrdAt.same {K : PySem.W.Frag} {H H' : Hp} {o : Ord} (h : OrdAt K H o) (s : L2.Same H H') : OrdAt K H' o := let ⟨dx, e⟩ := h; ⟨dx, s _ _ e⟩
theorem BookAt.same {K : PySem.W.Frag} {H H' : Hp} {b d : Addr} {B : Bk} (h : BookAt K H b d B) (s : L2.Same H H') : BookAt K H' b d B :=
  ⟨let ⟨dx, e⟩ := h.bk; ⟨dx, s _ _ e⟩, s _ _ h.dc, fun o ho => (h.os o ho).same s, h.nda, h.ndn⟩
theorem OrdAt.but {K : PySem.W.Frag} {H H' : Hp} {o : Ord} {p : Addr} (h : OrdAt K H o) (s : SameBut p H H') (n : o.ad ≠ p) : OrdAt K H' o := let ⟨dx, e⟩ := h; ⟨dx, s _ _ n e⟩
theorem BookAt.but {K : PySem.W.Frag} {H H' : Hp} {b d p : Addr} {B : Bk} (h : BookAt K H b d B) (s : SameBut p H H') (nb : b ≠ p) (nd : d ≠ p) (no : ∀ o ∈ B.ords, o.ad ≠ p) : BookAt K H' b d B :=
  ⟨let ⟨dx, e⟩ := h.bk; ⟨dx, s _ _ nb e⟩, s _ _ nd h.dc, fun o ho => (h.os o ho).but s (no o ho), h.nda, h.ndn⟩
theorem BookAt.bd {K : PySem.W.Frag} {H : Hp} {b d : Addr} {B : Bk} (h : BookAt K H b d B) : b ≠ d := by
  obtain ⟨dx, e⟩ := h.bk
  exact ne_of e h.dc (by intro z; cases z)
theorem OrdAt.nd {K : PySem.W.Frag} {H : Hp} {b d : Addr} {B : Bk} {o : Ord} (h : OrdAt K H o) (hb : BookAt K H b d B) : o.ad ≠ d := by
  obtain ⟨dx, e⟩ := h
  exact ne_of e hb.dc (by intro z; cases z)
theorem OrdAt.nb {K : PySem.W.Frag} {H : Hp} {b d : Addr} {B : Bk} {o : Ord} (h : OrdAt K H o) (hb : BookAt K H b d B) : o.ad ≠ b := by
  obtain ⟨dx, e⟩ := h
  obtain ⟨dy, e2⟩ := hb.bk
  refine ne_of e e2 (fun z => ?_)
  injection z with _ _ z
  exact absurd (show (8 : Nat) = 6 from congrArg List.length z) (by decide)
theorem Kd.ins {d p : Addr} {H H' : Hp} {C dx : Addr} {fs : List (Str × V)} (e : H p = some (.ins C dx fs)) (s : SameBut p H H') : Kd d H H' := fun a x h i n => s a x (fun z => by
  subst z
  rw [e] at h
  cases h
  cases i) h
theorem Kd.ord {K : PySem.W.Frag} {d : Addr} {H H' : Hp} {o : Ord} (h : OrdAt K H o) (s : SameBut o.ad H H') : Kd d H H' := let ⟨_, e⟩ := h; Kd.ins e s
theorem Kd.dct {d : Addr} {H H' : Hp} (s : SameBut d H H') : Kd d H H' := fun a x h _ n => s a x n h
theorem Kd.lst {d : Addr} {H H' : Hp} (k : Kd d H H') {a : Addr} {xs : List V} (h : H a = some (.lst xs)) (n : a ≠ d) : H' a = some (.lst xs) := k _ _ h rfl n

/-! ### fields read -/
section
variable {K : PySem.W.Frag} {mg : Str → Option Value} {H : Hp} {o : Ord} {b d : Addr} {B : Bk}
theorem rf {f : Str} {v : V} {a C dx : Addr} {fs : List (Str × V)} (h : H a = some (.ins C dx fs)) (c : Cls K C) (n : NoAttr K C f) (l : fs.lookup f = some v) {Q : V → Prop} (q : Q v) :
    ∃ a' C dx fs v, V.ref a = .ref a' ∧ H a' = some (.ins C dx fs) ∧ Cls K C ∧ NoAttr K C f ∧ fs.lookup f = some v ∧ Q v := ⟨a, C, dx, fs, v, rfl, h, c, n, l, q⟩
theorem ro_number (T : Tx K mg) (h : OrdAt K H o) {Q : V → Prop} (q : Q (.int o.num)) : ∃ a C dx fs v, V.ref o.ad = .ref a ∧ H a = some (.ins C dx fs) ∧ Cls K C ∧ NoAttr K C "number" ∧ fs.lookup ("number" : Str) = some v ∧ Q v := let ⟨_, e⟩ := h; rf e T.clO T.nO_number rfl q
theorem ro_owner (T : Tx K mg) (h : OrdAt K H o) {Q : V → Prop} (q : Q (.int o.own)) : ∃ a C dx fs v, V.ref o.ad = .ref a ∧ H a = some (.ins C dx fs) ∧ Cls K C ∧ NoAttr K C "owner" ∧ fs.lookup ("owner" : Str) = some v ∧ Q v := let ⟨_, e⟩ := h; rf e T.clO T.nO_owner rfl q
theorem ro_side (T : Tx K mg) (h : OrdAt K H o) {Q : V → Prop} (q : Q (.str (sideStr o.buy))) : ∃ a C dx fs v, V.ref o.ad = .ref a ∧ H a = some (.ins C dx fs) ∧ Cls K C ∧ NoAttr K C "side" ∧ fs.lookup ("side" : Str) = some v ∧ Q v := let ⟨_, e⟩ := h; rf e T.clO T.nO_side rfl q
theorem ro_price (T : Tx K mg) (h : OrdAt K H o) {Q : V → Prop} (q : Q (optV o.price)) : ∃ a C dx fs v, V.ref o.ad = .ref a ∧ H a = some (.ins C dx fs) ∧ Cls K C ∧ NoAttr K C "price" ∧ fs.lookup ("price" : Str) = some v ∧ Q v := let ⟨_, e⟩ := h; rf e T.clO T.nO_price rfl q
theorem ro_rest (T : Tx K mg) (h : OrdAt K H o) {Q : V → Prop} (q : Q (.int o.rest)) : ∃ a C dx fs v, V.ref o.ad = .ref a ∧ H a = some (.ins C dx fs) ∧ Cls K C ∧ NoAttr K C "rest" ∧ fs.lookup ("rest" : Str) = some v ∧ Q v := let ⟨_, e⟩ := h; rf e T.clO T.nO_rest rfl q
theorem ro_shows (T : Tx K mg) (h : OrdAt K H o) {Q : V → Prop} (q : Q (optV o.shows)) : ∃ a C dx fs v, V.ref o.ad = .ref a ∧ H a = some (.ins C dx fs) ∧ Cls K C ∧ NoAttr K C "shows" ∧ fs.lookup ("shows" : Str) = some v ∧ Q v := let ⟨_, e⟩ := h; rf e T.clO T.nO_shows rfl q
theorem ro_part (T : Tx K mg) (h : OrdAt K H o) {Q : V → Prop} (q : Q (.int o.part)) : ∃ a C dx fs v, V.ref o.ad = .ref a ∧ H a = some (.ins C dx fs) ∧ Cls K C ∧ NoAttr K C "part" ∧ fs.lookup ("part" : Str) = some v ∧ Q v := let ⟨_, e⟩ := h; rf e T.clO T.nO_part rfl q
theorem ro_place (T : Tx K mg) (h : OrdAt K H o) {Q : V → Prop} (q : Q (.int o.place)) : ∃ a C dx fs v, V.ref o.ad = .ref a ∧ H a = some (.ins C dx fs) ∧ Cls K C ∧ NoAttr K C "place" ∧ fs.lookup ("place" : Str) = some v ∧ Q v := let ⟨_, e⟩ := h; rf e T.clO T.nO_place rfl q
theorem rb_orders (T : Tx K mg) (h : BookAt K H b d B) {Q : V → Prop} (q : Q (.ref d)) : ∃ a C dx fs v, V.ref b = .ref a ∧ H a = some (.ins C dx fs) ∧ Cls K C ∧ NoAttr K C "orders" ∧ fs.lookup ("orders" : Str) = some v ∧ Q v := let ⟨_, e⟩ := h.bk; rf e T.clB T.nB_orders rfl q
theorem rb_many (T : Tx K mg) (h : BookAt K H b d B) {Q : V → Prop} (q : Q (.int B.many)) : ∃ a C dx fs v, V.ref b = .ref a ∧ H a = some (.ins C dx fs) ∧ Cls K C ∧ NoAttr K C "many" ∧ fs.lookup ("many" : Str) = some v ∧ Q v := let ⟨_, e⟩ := h.bk; rf e T.clB T.nB_many rfl q
theorem rb_places (T : Tx K mg) (h : BookAt K H b d B) {Q : V → Prop} (q : Q (.int B.places)) : ∃ a C dx fs v, V.ref b = .ref a ∧ H a = some (.ins C dx fs) ∧ Cls K C ∧ NoAttr K C "places" ∧ fs.lookup ("places" : Str) = some v ∧ Q v := let ⟨_, e⟩ := h.bk; rf e T.clB T.nB_places rfl q
theorem rb_price (T : Tx K mg) (h : BookAt K H b d B) {Q : V → Prop} (q : Q (optV B.last)) : ∃ a C dx fs v, V.ref b = .ref a ∧ H a = some (.ins C dx fs) ∧ Cls K C ∧ NoAttr K C "price" ∧ fs.lookup ("price" : Str) = some v ∧ Q v := let ⟨_, e⟩ := h.bk; rf e T.clB T.nB_price rfl q
theorem rb_traded (T : Tx K mg) (h : BookAt K H b d B) {Q : V → Prop} (q : Q (.int B.traded)) : ∃ a C dx fs v, V.ref b = .ref a ∧ H a = some (.ins C dx fs) ∧ Cls K C ∧ NoAttr K C "traded" ∧ fs.lookup ("traded" : Str) = some v ∧ Q v := let ⟨_, e⟩ := h.bk; rf e T.clB T.nB_traded rfl q
theorem rb_calling (T : Tx K mg) (h : BookAt K H b d B) {Q : V → Prop} (q : Q (.bl B.calling)) : ∃ a C dx fs v, V.ref b = .ref a ∧ H a = some (.ins C dx fs) ∧ Cls K C ∧ NoAttr K C "calling" ∧ fs.lookup ("calling" : Str) = some v ∧ Q v := let ⟨_, e⟩ := h.bk; rf e T.clB T.nB_calling rfl q

/-! ### fields written -/
theorem wf {f : Str} {y : V} {a C dx : Addr} {fs : List (Str × V)} (h : H a = some (.ins C dx fs)) (c : Cls K C) (n : NoAttr K C f) (l : fs.length < 1000) {R : Hp → Prop} (q : R (upd H a (.ins C dx (putF f y fs)))) :
    ∃ a' C dx fs, V.ref a = .ref a' ∧ H a' = some (.ins C dx fs) ∧ Cls K C ∧ NoAttr K C f ∧ fs.length < 1000 ∧ R (upd H a' (.ins C dx (putF f y fs))) := ⟨a, C, dx, fs, rfl, h, c, n, l, q⟩
theorem wo_gen {f : Str} {y : V} {o' : Ord} (T : Tx K mg) (n : NoAttr K (CO K) f) (h : OrdAt K H o) (e : putF f y (ordF o) = ordF o') (ea : o'.ad = o.ad) {R : Hp → Prop} (q : ∀ H', OrdAt K H' o' → SameBut o.ad H H' → R H') :
    ∃ a C dx fs, V.ref o.ad = .ref a ∧ H a = some (.ins C dx fs) ∧ Cls K C ∧ NoAttr K C f ∧ fs.length < 1000 ∧ R (upd H a (.ins C dx (putF f y fs))) := by
  obtain ⟨dx, h⟩ := h
  refine wf h T.clO n (by show 8 < 1000; decide) (q _ ⟨dx, ?_⟩ sb_upd)
  rw [ea, upd_same, e]
theorem wo_rest (T : Tx K mg) (h : OrdAt K H o) {z : Int} {R : Hp → Prop} (q : ∀ H', OrdAt K H' { o with rest := z } → SameBut o.ad H H' → R H') :
    ∃ a C dx fs, V.ref o.ad = .ref a ∧ H a = some (.ins C dx fs) ∧ Cls K C ∧ NoAttr K C "rest" ∧ fs.length < 1000 ∧ R (upd H a (.ins C dx (putF "rest" (.int z) fs))) := wo_gen (o' := { o with rest := z }) T T.nO_rest h rfl rfl q
theorem wo_part (T : Tx K mg) (h : OrdAt K H o) {z : Int} {R : Hp → Prop} (q : ∀ H', OrdAt K H' { o with part := z } → SameBut o.ad H H' → R H') :
    ∃ a C dx fs, V.ref o.ad = .ref a ∧ H a = some (.ins C dx fs) ∧ Cls K C ∧ NoAttr K C "part" ∧ fs.length < 1000 ∧ R (upd H a (.ins C dx (putF "part" (.int z) fs))) := wo_gen (o' := { o with part := z }) T T.nO_part h rfl rfl q
theorem wo_place (T : Tx K mg) (h : OrdAt K H o) {z : Int} {R : Hp → Prop} (q : ∀ H', OrdAt K H' { o with place := z } → SameBut o.ad H H' → R H') :
    ∃ a C dx fs, V.ref o.ad = .ref a ∧ H a = some (.ins C dx fs) ∧ Cls K C ∧ NoAttr K C "place" ∧ fs.length < 1000 ∧ R (upd H a (.ins C dx (putF "place" (.int z) fs))) := wo_gen (o' := { o with place := z }) T T.nO_place h rfl rfl q
theorem wb_gen {f : Str} {y : V} {B' : Bk} (T : Tx K mg) (n : NoAttr K (CB K) f) (h : BookAt K H b d B) (e : putF f y (bkF d B) = bkF d B') (eo : B'.ords = B.ords) {R : Hp → Prop} (q : ∀ H', BookAt K H' b d B' → SameBut b H H' → R H') :
    ∃ a C dx fs, V.ref b = .ref a ∧ H a = some (.ins C dx fs) ∧ Cls K C ∧ NoAttr K C f ∧ fs.length < 1000 ∧ R (upd H a (.ins C dx (putF f y fs))) := by
  obtain ⟨dx, hb⟩ := h.bk
  refine wf hb T.clB n (by show 6 < 1000; decide) (q _ ⟨⟨dx, by rw [upd_same, e]⟩, ?_, ?_, by rw [eo]; exact h.nda, by rw [eo]; exact h.ndn⟩ sb_upd)
  · rw [upd_ne (Ne.symm h.bd), eo]
    exact h.dc
  · intro o ho
    rw [eo] at ho
    exact (h.os o ho).but sb_upd ((h.os o ho).nb h)
theorem wb_many (T : Tx K mg) (h : BookAt K H b d B) {z : Int} {R : Hp → Prop} (q : ∀ H', BookAt K H' b d { B with many := z } → SameBut b H H' → R H') :
    ∃ a C dx fs, V.ref b = .ref a ∧ H a = some (.ins C dx fs) ∧ Cls K C ∧ NoAttr K C "many" ∧ fs.length < 1000 ∧ R (upd H a (.ins C dx (putF "many" (.int z) fs))) := wb_gen (B' := { B with many := z }) T T.nB_many h rfl rfl q
theorem wb_places (T : Tx K mg) (h : BookAt K H b d B) {z : Int} {R : Hp → Prop} (q : ∀ H', BookAt K H' b d { B with places := z } → SameBut b H H' → R H') :
    ∃ a C dx fs, V.ref b = .ref a ∧ H a = some (.ins C dx fs) ∧ Cls K C ∧ NoAttr K C "places" ∧ fs.length < 1000 ∧ R (upd H a (.ins C dx (putF "places" (.int z) fs))) := wb_gen (B' := { B with places := z }) T T.nB_places h rfl rfl q
theorem wb_price (T : Tx K mg) (h : BookAt K H b d B) {z : Int} {R : Hp → Prop} (q : ∀ H', BookAt K H' b d { B with last := some z } → SameBut b H H' → R H') :
    ∃ a C dx fs, V.ref b = .ref a ∧ H a = some (.ins C dx fs) ∧ Cls K C ∧ NoAttr K C "price" ∧ fs.length < 1000 ∧ R (upd H a (.ins C dx (putF "price" (.int z) fs))) := wb_gen (B' := { B with last := some z }) T T.nB_price h rfl rfl q
theorem wb_traded (T : Tx K mg) (h : BookAt K H b d B) {z : Int} {R : Hp → Prop} (q : ∀ H', BookAt K H' b d { B with traded := z } → SameBut b H H' → R H') :
    ∃ a C dx fs, V.ref b = .ref a ∧ H a = some (.ins C dx fs) ∧ Cls K C ∧ NoAttr K C "traded" ∧ fs.length < 1000 ∧ R (upd H a (.ins C dx (putF "traded" (.int z) fs))) := wb_gen (B' := { B with traded := z }) T T.nB_traded h rfl rfl q
theorem wb_calling (T : Tx K mg) (h : BookAt K H b d B) {z : Bool} {R : Hp → Prop} (q : ∀ H', BookAt K H' b d { B with calling := z } → SameBut b H H' → R H') :
    ∃ a C dx fs, V.ref b = .ref a ∧ H a = some (.ins C dx fs) ∧ Cls K C ∧ NoAttr K C "calling" ∧ fs.length < 1000 ∧ R (upd H a (.ins C dx (putF "calling" (.bl z) fs))) := wb_gen (B' := { B with calling := z }) T T.nB_calling h rfl rfl q
end

/-! ### the dict of orders, looked into -/
theorem val_entry {os : List Ord} (hn : (os.map (·.num)).Nodup) {o : Ord} (ho : o ∈ os) : valV (os.map entry) (Sum.inl o.num) = some (.ref o.ad) := by
  induction os with
  | nil => cases ho
  | cons a r ih =>
    rw [List.map_cons]
    rw [List.map_cons, List.nodup_cons] at hn
    by_cases e : a.num = o.num
    · have : o = a := by
        rcases List.mem_cons.mp ho with h | h
        · exact h
        · exact absurd (List.mem_map.mpr ⟨o, h, e.symm⟩) hn.1
      subst this
      exact valV_pos (p := entry o) rfl
    · rw [valV_neg (p := entry a) (fun z => e (Sum.inl.inj z))]
      rcases List.mem_cons.mp ho with h | h
      · exact absurd (congrArg Ord.num h).symm e
      · exact ih hn.2 h
theorem val_none {os : List Ord} {n : Int} (h : findO os n = none) : valV (os.map entry) (Sum.inl n) = none := by
  induction os with
  | nil => rfl
  | cons a r ih =>
    unfold findO at h
    rw [List.find?_cons] at h
    by_cases e : a.num = n
    · rw [decide_eq_true e] at h
      cases h
    · rw [decide_eq_false e] at h
      rw [List.map_cons, valV_neg (p := entry a) (fun z => e (Sum.inl.inj z))]
      exact ih h
theorem find_some {os : List Ord} {n : Int} {o : Ord} (h : findO os n = some o) : o ∈ os ∧ o.num = n := by
  unfold findO at h
  exact ⟨List.mem_of_find?_eq_some h, by simpa using List.find?_some h⟩
theorem drop_entry (os : List Ord) (n : Int) : dropK (os.map entry) (Sum.inl n) = (dropO os n).map entry := by
  unfold dropK dropO
  induction os with
  | nil => rfl
  | cons a r ih =>
    rw [List.map_cons, List.filter_cons, List.filter_cons, ih]
    by_cases e : a.num = n
    · simp [entry, e]
    · have : ¬ (Sum.inl a.num : Key) = Sum.inl n := fun z => e (Sum.inl.inj z)
      simp [entry, e, this]
end FB

set_option maxRecDepth 100000
set_option maxHeartbeats 4000000
/-! The walks of fairbook/orders.py. -/
namespace FB
open PySem PySem.Spec PyProof.Rows L2
section
variable {P : Program} {w : World} {K : PySem.W.Frag} {mg : Str → Option Value} {base : Heap}

/-! ### Order -/
def spOInit (K : PySem.W.Frag) : Sp := fun vs H Q _ => ∃ (p dx : Addr) (n ow : Int) (buy : Bool) (price : Option Int) (many : Int) (shows : Option Int),
  vs = [.ref p, .int n, .int ow, .str (sideStr buy), optV price, .int many, optV shows] ∧ H p = some (.ins (CO K) dx []) ∧
  ∀ H', OrdAt K H' { ad := p, num := n, own := ow, buy := buy, price := price, rest := many, shows := shows, part := 0, place := 0 } → SameBut p H H' → Q .non H'
theorem scOInit : FnScope ["self", "number", "owner", "side", "price", "left", "shows"] ["self", "number", "owner", "side", "price", "left", "shows"] (defScope s_O_init) := ⟨rfl, rfl, rfl, by decide +kernel, rfl, by decide +kernel, by decide +kernel⟩
theorem w_O_init (T : Tx K mg) : Cn P w K mg base CX0 1 "Order" ["self", "number", "owner", "side", "price", "left", "shows"] (spOInit K) := by
  refine ⟨ok0 T.f_O_init scOInit (fun _ _ _ _ _ _ us hl => match us, hl with | [_, _, _, _, _, _, _], _ => rfl) (fun vs H Q E h => ?_) (fun cdv A outer s H vs Q E hr h => ?_), T.mkO, T.g_Order⟩
  · obtain ⟨p, dx, n, ow, buy, price, many, shows, rfl, _⟩ := h
    rfl
  · obtain ⟨p, dx, n, ow, buy, price, many, shows, rfl, hp, k⟩ := h
    refine ⟨_, pss_cons (ps_fld (pv 0) (pv 1) rfl) (pss_cons (ps_fld (pv 0) (pv 2) rfl) (pss_cons (ps_fld (pv 0) (pv 3) rfl) (pss_cons (ps_fld (pv 0) (pv 4) rfl)
      (pss_cons (ps_fld (pv 0) (pv 5) rfl) (pss_cons (ps_fld (pv 0) (pv 6) rfl) (pss_cons (ps_fld (pv 0) pe_int rfl) (pss_one (ps_fld (pv 0) pe_int rfl)))))))), ?_⟩
    refine ⟨_, rfl, _, rfl, p, _, dx, _, rfl, hp, T.clO, T.nO_number, by show 0 < 1000; decide, ?_⟩
    refine ⟨_, rfl, _, rfl, p, _, dx, _, rfl, upd_same, T.clO, T.nO_owner, by show 1 < 1000; decide, ?_⟩
    refine ⟨_, rfl, _, rfl, p, _, dx, _, rfl, upd_same, T.clO, T.nO_side, by show 2 < 1000; decide, ?_⟩
    refine ⟨_, rfl, _, rfl, p, _, dx, _, rfl, upd_same, T.clO, T.nO_price, by show 3 < 1000; decide, ?_⟩
    refine ⟨_, rfl, _, rfl, p, _, dx, _, rfl, upd_same, T.clO, T.nO_rest, by show 4 < 1000; decide, ?_⟩
    refine ⟨_, rfl, _, rfl, p, _, dx, _, rfl, upd_same, T.clO, T.nO_shows, by show 5 < 1000; decide, ?_⟩
    refine ⟨_, rfl, p, _, dx, _, rfl, upd_same, T.clO, T.nO_part, by show 6 < 1000; decide, ?_⟩
    refine ⟨_, rfl, p, _, dx, _, rfl, upd_same, T.clO, T.nO_place, by show 7 < 1000; decide, ?_⟩
    refine k _ ⟨dx, upd_same⟩ fun b u hb e => ?_
    rw [upd_ne hb, upd_ne hb, upd_ne hb, upd_ne hb, upd_ne hb, upd_ne hb, upd_ne hb, upd_ne hb]
    exact e

def spShow (K : PySem.W.Frag) : Sp := fun vs H Q _ => ∃ o : Ord, vs = [.ref o.ad] ∧ OrdAt K H o ∧ ∀ H', OrdAt K H' o.show → SameBut o.ad H H' → Q .non H'
theorem scShow : FnScope ["self"] ["self"] (defScope s_O_show) := ⟨rfl, rfl, rfl, by decide +kernel, rfl, by decide +kernel, by decide +kernel⟩
theorem w_show (T : Tx K mg) : Mt P w K mg base CX0 1 "Order" "show" ["self"] (spShow K) := by
  refine ⟨ok0 T.f_O_show scShow (fun _ _ _ _ _ _ us hl => match us, hl with | [_], _ => rfl) (fun vs H Q E h => ?_) (fun cdv A outer s H vs Q E hr h => ?_), T.clO, T.m_O_show⟩
  · obtain ⟨o, rfl, _⟩ := h
    rfl
  · obtain ⟨o, rfl, ho, k⟩ := h
    refine ⟨_, pss_cons (ps_fld (pv 0) (pe_fld (pv 0) rfl) rfl) (pss_one (ps_if (pt_cmp (pc_notN (pe_fld (pv 0) rfl)))
      (pss_one (ps_fld (pv 0) (pe_callB (call_min2 rfl) (by rfl) T.z_min boot_min (pa_cons (pe_fld (pv 0) rfl) (pa_cons (pe_fld (pv 0) rfl) pa_nil))) rfl)) pss_nil)), ?_⟩
    refine ⟨_, rfl, ro_rest T ho ⟨_, rfl, wo_part T ho fun H1 h1 s1 => ⟨_, rfl, ro_shows T h1 ⟨_, rfl, ?_⟩⟩⟩⟩
    cases e : o.shows with
    | none =>
      refine iteF (k H1 ?_ s1)
      have : o.show = { o with part := o.rest } := by
        unfold Ord.show Ord.shown
        rw [e]
      rw [this]
      exact h1
    | some z =>
      refine iteT ⟨_, rfl, ro_shows T h1 ⟨_, rfl, ro_rest T h1 ⟨z, o.rest, by rw [show ({ o with part := o.rest } : Ord).shows = some z from e]; rfl, ⟨_, rfl, wo_part T h1 fun H2 h2 s2 => k H2 ?_ fun b u hb x => s2 b u hb (s1 b u hb x)⟩⟩⟩⟩
      have : o.show = { o with part := if o.rest < z then o.rest else z } := by
        unfold Ord.show Ord.shown
        rw [e]
        rfl
      rw [this]
      exact h2

def spSuits (K : PySem.W.Frag) : Sp := fun vs H Q _ => ∃ (o : Ord) (p : Int), vs = [.ref o.ad, .int p] ∧ OrdAt K H o ∧ Q (.bl (o.suits p)) H
theorem scSuits : FnScope ["self", "price"] ["self", "price"] (defScope s_O_suits) := ⟨rfl, rfl, rfl, by decide +kernel, rfl, by decide +kernel, by decide +kernel⟩
theorem side_buy (b : Bool) : decide (V.str (sideStr b) = V.str "buy") = b := by cases b <;> decide +kernel
theorem w_suits (T : Tx K mg) : Mt P w K mg base CX0 1 "Order" "suits" ["self", "price"] (spSuits K) := by
  refine ⟨ok0 T.f_O_suits scSuits (fun _ _ _ _ _ _ us hl => match us, hl with | [_, _], _ => rfl) (fun vs H Q E h => ?_) (fun cdv A outer s H vs Q E hr h => ?_), T.clO, T.m_O_suits⟩
  · obtain ⟨o, p, rfl, _⟩ := h
    rfl
  · obtain ⟨o, p, rfl, ho, k⟩ := h
    refine ⟨_, pss_cons (ps_if (pt_cmp (pc_isN (pe_fld (pv 0) rfl))) (pss_one (ps_ret pe_bl)) pss_nil)
      (pss_cons (ps_if (pt_cmpR op_eq (pe_fld (pv 0) rfl) (pe_gs T.k_BUY (by rfl)) (nomark _)) (pss_one (ps_ret (pe_cmpR op_le (pv 1) (pe_fld (pv 0) rfl) (nomark _)))) pss_nil)
      (pss_one (ps_ret (pe_cmpR op_ge (pv 1) (pe_fld (pv 0) rfl) (nomark _))))), ?_⟩
    refine ⟨_, rfl, ro_price T ho ⟨_, rfl, ?_⟩⟩
    unfold Ord.suits at k
    cases e : o.price with
    | none =>
      rw [e] at k
      exact iteT k
    | some q =>
      rw [e] at k
      refine iteF ⟨_, rfl, ro_side T ho ⟨rfl, _, rfl, ?_⟩⟩
      rw [side_buy]
      cases eb : o.buy with
      | true =>
        rw [eb] at k
        exact iteT ⟨_, rfl, _, rfl, ro_price T ho ⟨p, q, rfl, by rw [e]; rfl, k⟩⟩
      | false =>
        rw [eb] at k
        exact iteF ⟨_, rfl, _, rfl, ro_price T ho ⟨p, q, rfl, by rw [e]; rfl, k⟩⟩

def spRank (K : PySem.W.Frag) : Sp := fun vs H Q _ => ∃ o : Ord, vs = [.ref o.ad] ∧ OrdAt K H o ∧ o.price = some o.pr ∧ ∀ t, H t = none → Q (.ref t) (upd H t (.tup [.int o.k1, .int o.place]))
theorem scRank : FnScope ["self"] ["self"] (defScope s_O_rank) := ⟨rfl, rfl, rfl, by decide +kernel, rfl, by decide +kernel, by decide +kernel⟩
theorem w_rank (T : Tx K mg) : Mt P w K mg base CX0 1 "Order" "rank" ["self"] (spRank K) := by
  refine ⟨ok0 T.f_O_rank scRank (fun _ _ _ _ _ _ us hl => match us, hl with | [_], _ => rfl) (fun vs H Q E h => ?_) (fun cdv A outer s H vs Q E hr h => ?_), T.clO, T.m_O_rank⟩
  · obtain ⟨o, rfl, _⟩ := h
    rfl
  · obtain ⟨o, rfl, ho, ep, k⟩ := h
    refine ⟨_, pss_cons (ps_if (pt_cmpR op_eq (pe_fld (pv 0) rfl) (pe_gs T.k_BUY (by rfl)) (nomark _)) (pss_one (ps_ret (pe_tup (pa_cons (pe_un un_neg (pe_fld (pv 0) rfl)) (pa_cons (pe_fld (pv 0) rfl) pa_nil))))) pss_nil)
      (pss_one (ps_ret (pe_tup (pa_cons (pe_fld (pv 0) rfl) (pa_cons (pe_fld (pv 0) rfl) pa_nil))))), ?_⟩
    refine ⟨_, rfl, ro_side T ho ⟨rfl, _, rfl, ?_⟩⟩
    rw [side_buy]
    unfold Ord.k1 at k
    cases eb : o.buy with
    | true =>
      rw [eb] at k
      exact iteT ⟨_, rfl, ro_price T ho ⟨o.pr, by rw [ep]; rfl, _, rfl, ro_place T ho ⟨by show 2 ≤ sizeLine; decide, k⟩⟩⟩
    | false =>
      rw [eb] at k
      refine iteF ⟨_, rfl, ro_price T ho ⟨_, rfl, ro_place T ho ⟨by show 2 ≤ sizeLine; decide, ?_⟩⟩⟩
      rw [ep]
      exact k

/-! ### the module's defs -/
def spOther : Sp := fun vs H Q _ => ∃ b : Bool, vs = [.str (sideStr b)] ∧ Q (.str (sideStr (!b))) H
theorem scOther : FnScope ["side"] ["side"] (defScope s_other_side) := ⟨rfl, rfl, rfl, by decide +kernel, rfl, by decide +kernel, by decide +kernel⟩
theorem w_other (T : Tx K mg) : Fn P w K mg base CX0 1 "other_side" ["side"] spOther := by
  refine ⟨ok0 T.f_other_side scOther (fun _ _ _ _ _ _ us hl => match us, hl with | [_], _ => rfl) (fun vs H Q E h => ?_) (fun cdv A outer s H vs Q E hr h => ?_), T.g_other_side, ?_⟩
  · obtain ⟨b, rfl, _⟩ := h
    rfl
  · obtain ⟨b, rfl, k⟩ := h
    refine ⟨_, pss_cons (ps_if (pt_cmpR op_eq (pv 0) (pe_gs T.k_BUY (by rfl)) (nomark _)) (pss_one (ps_ret (pe_gs T.k_SELL (by rfl)))) pss_nil)
      (pss_one (ps_ret (pe_gs T.k_BUY (by rfl)))), ?_⟩
    refine ⟨_, rfl, rfl, _, rfl, ?_⟩
    rw [side_buy]
    cases b with
    | true => exact iteT k
    | false => exact iteF k
  · obtain ⟨fd, F⟩ := T.f_other_side
    exact F.kp

def spCount : Sp := fun vs H Q _ => ∃ n : Int, vs = [.int n] ∧ Q (.bl (isCount n)) H
theorem scCount : FnScope ["number"] ["number"] (defScope s_is_count) := ⟨rfl, rfl, rfl, by decide +kernel, rfl, by decide +kernel, by decide +kernel⟩
theorem w_count (T : Tx K mg) : Fn P w K mg base CX0 1 "is_count" ["number"] spCount := by
  refine ⟨ok0 T.f_is_count scCount (fun _ _ _ _ _ _ us hl => match us, hl with | [_], _ => rfl) (fun vs H Q E h => ?_) (fun cdv A outer s H vs Q E hr h => ?_), T.g_is_count, ?_⟩
  · obtain ⟨b, rfl, _⟩ := h
    rfl
  · obtain ⟨n, rfl, k⟩ := h
    refine ⟨_, pss_one (ps_ret (pe_chain op_le op_le pe_int (pv 0) (pe_gi T.k_MOST_COUNT (by rfl)))), ?_⟩
    refine ⟨_, rfl, _, _, rfl, rfl, _, rfl, ?_⟩
    unfold isCount at k
    by_cases h : (1 : Int) ≤ n
    · rw [decide_eq_true h] at k ⊢
      exact iteT ⟨_, _, rfl, rfl, k⟩
    · rw [decide_eq_false h] at k ⊢
      exact iteF k
  · obtain ⟨fd, F⟩ := T.f_is_count
    exact F.kp

theorem eqS (a b : Str) : (a == b) = decide (b = a) := by
  by_cases h : a = b
  · subst h; simp
  · rw [decide_eq_false (fun z => h z.symm)]
    exact beq_eq_false_iff_ne.mpr h
theorem inV_side (z : Str) : inV (.str z) [.str "buy", .str "sell"] = goodSide z := by
  show (((("buy" : Str) == z) || ((("sell" : Str) == z) || false))) = _
  rw [eqS, eqS, Bool.or_false]
  rfl
theorem inV_way (z : Str) : inV (.str z) [.str "rest", .str "now", .str "whole"] = goodWay z := by
  show (((("rest" : Str) == z) || ((("now" : Str) == z) || ((("whole" : Str) == z) || false)))) = _
  rw [eqS, eqS, eqS, Bool.or_false]
  rfl
def priceOk (price : Option Int) (way : Str) : Bool := match price with
  | none => !decide (way = ("rest" : Str))
  | some p => decide (1 ≤ p) && decide (p ≤ 1000000000)
def showsOk (shows : Option Int) (many : Int) (way : Str) : Bool := match shows with
  | none => true
  | some s => decide (way = ("rest" : Str)) && (decide (1 ≤ s) && decide (s ≤ many))
theorem goodO_eq (side : Str) (price : Option Int) (many : Int) (shows : Option Int) (way : Str) : goodO side price many shows way = (goodSide side && goodWay way && isCount many && priceOk price way && showsOk shows many way) := by
  unfold goodO priceOk showsOk
  cases price <;> cases shows <;> rfl
def spLook (K : PySem.W.Frag) : Sp := fun vs H Q E => ∃ (side : Str) (price : Option Int) (many : Int) (shows : Option Int) (way : Str), vs = [.str side, optV price, .int many, optV shows, .str way] ∧
  (goodO side price many shows way = true → ∀ H', L2.Same H H' → Q .non H') ∧ (goodO side price many shows way = false → ∀ H', L2.Same H H' → E (.ref (He.ga K "BadOrder")) none H')
theorem scLook : FnScope ["side", "price", "many", "shows", "way"] ["side", "price", "many", "shows", "way"] (defScope s_look_order) := ⟨rfl, rfl, rfl, by decide +kernel, rfl, by decide +kernel, by decide +kernel⟩
theorem dec_str (a b : Str) : decide (V.str a = V.str b) = decide (a = b) := by
  by_cases h : a = b
  · subst h; simp
  · rw [decide_eq_false h]
    exact decide_eq_false fun z => h (V.str.inj z)
theorem optV_non (p : Option Int) : decide (optV p = V.non) = p.isNone := by cases p <;> simp [optV]
theorem w_look (T : Tx K mg) : Fn P w K mg base (L2.CX P w) 2 "look_order" ["side", "price", "many", "shows", "way"] (spLook K) := by
  refine ⟨okX T.f_look_order scLook (fun _ _ _ _ _ _ us hl => match us, hl with | [_, _, _, _, _], _ => rfl) (fun vs H Q E h => ?_) (fun cdv A outer s H vs Q E hr h => ?_), T.g_look_order, ?_⟩
  · obtain ⟨side, price, many, shows, way, rfl, _⟩ := h
    rfl
  · obtain ⟨side, price, many, shows, way, rfl, k1, k2⟩ := h
    have GC : Fn P w K mg base CX0 1 "is_count" ["number"] spCount := w_count T
    obtain ⟨xP, kP, bP, tP⟩ := T.e_BadOrder
    refine ⟨_, pss_cons (ps_if (PW.pt (pw_or (pt_cmpR op_notIn_seq (pv 0) (pe_tup (pa_cons (pe_gs T.k_BUY (by rfl)) (pa_cons (pe_gs T.k_SELL (by rfl)) pa_nil))) (by rfl))
        (pw_or (pt_cmpR op_notIn_seq (pv 4) (pe_glob (v := .ref (He.ga K "WAYS")) (by rfl) T.g_WAYS rfl) (by rfl)) (pw_or1 (pt_not (pt_val (pe_fn GC hr rfl pass0 (pa_cons (pv 2) pa_nil))))))))
        (pss_one (ps_raise rfl (takes_of rfl rfl rfl rfl) (pmk_own PySem.F.excBase_ValueError xP T.g_BadOrder kP (raises_own bP tP) rfl))) pss_nil)
      (pss_cons (ps_if (PW.pt (pw_and (pt_cmp (pc_notN (pv 1))) (pw_and1 (pt_not (pt_chain op_le op_le pe_int (pv 1) (pe_gi T.k_MOST_PRICE (by rfl)))))))
        (pss_one (ps_raise rfl (takes_of rfl rfl rfl rfl) (pmk_own PySem.F.excBase_ValueError xP T.g_BadOrder kP (raises_own bP tP) rfl))) pss_nil)
      (pss_cons (ps_if (PW.pt (pw_and (pt_cmp (pc_isN (pv 1))) (pw_and1 (pt_cmpR op_eq (pv 4) (pe_gs T.k_REST (by rfl)) (nomark _)))))
        (pss_one (ps_raise rfl (takes_of rfl rfl rfl rfl) (pmk_own PySem.F.excBase_ValueError xP T.g_BadOrder kP (raises_own bP tP) rfl))) pss_nil)
      (pss_one (ps_if (PW.pt (pw_and (pt_cmp (pc_notN (pv 3))) (pw_and1 (PW.pt (pw_or (pt_cmpR op_ne (pv 4) (pe_gs T.k_REST (by rfl)) (nomark _)) (pw_or1 (pt_not (pt_chain op_le op_le pe_int (pv 3) (pv 2)))))))))
        (pss_one (ps_raise rfl (takes_of rfl rfl rfl rfl) (pmk_own PySem.F.excBase_ValueError xP T.g_BadOrder kP (raises_own bP tP) rfl))) pss_nil)))), ?_⟩
    refine ⟨_, rfl, by show 2 ≤ sizeLine; decide, fun t ht => ⟨t, _, rfl, .inr (SqT.of upd_same), rfl, rfl, _, rfl, ?_⟩⟩
    have sm : L2.Same H (upd H t (.tup [.str "buy", .str "sell"])) := same_new ht
    rw [inV_side]
    cases hs : goodSide side with
    | false => exact iteT (iteT (k2 (by simp [goodO, hs]) _ sm))
    | true =>
      refine iteF ⟨_, rfl, _, _, rfl, .inr (T.t_WAYS _), rfl, rfl, _, rfl, ?_⟩
      rw [inV_way]
      cases hw : goodWay way with
      | false => exact iteT (iteT (k2 (by simp [goodO, hw]) _ sm))
      | true =>
        refine iteF ⟨_, rfl, many, rfl, _, rfl, ?_⟩
        cases hc : isCount many with
        | false => exact iteT (k2 (by simp [goodO, hc]) _ sm)
        | true =>
          refine iteF ⟨_, rfl, _, rfl, ?_⟩
          rw [optV_non]
          have hgood : ∀ b c, priceOk price way = b → showsOk shows many way = c → goodO side price many shows way = (b && c) := fun b c e1 e2 => by
            rw [goodO_eq, hs, hw, hc, e1, e2]
            rfl
          have pgood : ∃ b, priceOk price way = b := ⟨_, rfl⟩
          obtain ⟨pb, hpb⟩ := pgood
          cases pb with
          | false =>
            have kb : ∀ H', L2.Same H H' → E (.ref (He.ga K "BadOrder")) none H' := k2 (by rw [hgood false _ hpb rfl]; rfl)
            cases price with
            | none =>
              have hr : decide (way = ("rest" : Str)) = true := by simpa [priceOk] using hpb
              refine iteF (iteF ⟨_, rfl, _, rfl, iteT ⟨_, rfl, rfl, _, rfl, ?_⟩⟩)
              rw [dec_str, hr]
              exact iteT (kb _ sm)
            | some p =>
              have hr : (decide (1 ≤ p) && decide (p ≤ 1000000000)) = false := hpb
              refine iteT ⟨_, rfl, _, _, rfl, rfl, _, rfl, ?_⟩
              cases h1 : decide ((1 : Int) ≤ p) with
              | false => exact iteF ⟨_, rfl, iteT (kb _ sm)⟩
              | true =>
                rw [h1] at hr
                refine iteT ⟨_, _, rfl, rfl, _, rfl, ?_⟩
                rw [show decide (p ≤ 1000000000) = false from hr]
                exact iteT (kb _ sm)
          | true =>
            have k4 : showsOk shows many way = true → ∀ H', L2.Same H H' → Q .non H' := fun e => k1 (by rw [hgood true true hpb e]; rfl)
            have k5 : showsOk shows many way = false → ∀ H', L2.Same H H' → E (.ref (He.ga K "BadOrder")) none H' := fun e => k2 (by rw [hgood true false hpb e]; rfl)
            cases price with
            | none =>
              have hr : decide (way = ("rest" : Str)) = false := by simpa [priceOk] using hpb
              refine iteF (iteF ⟨_, rfl, _, rfl, iteT ⟨_, rfl, rfl, _, rfl, ?_⟩⟩)
              rw [dec_str, hr]
              refine iteF ⟨_, rfl, _, rfl, ?_⟩
              rw [optV_non]
              cases shows with
              | none => exact iteF (iteF (k4 rfl _ sm))
              | some z =>
                refine iteT ⟨_, rfl, rfl, _, rfl, ?_⟩
                rw [dec_str, hr]
                exact iteT (iteT (k5 (by simp [showsOk, hr]) _ sm))
            | some p =>
              have hr : (decide (1 ≤ p) && decide (p ≤ 1000000000)) = true := hpb
              obtain ⟨h1, h2⟩ := Bool.and_eq_true_iff.mp hr
              refine iteT ⟨_, rfl, _, _, rfl, rfl, _, rfl, ?_⟩
              rw [h1]
              refine iteT ⟨_, _, rfl, rfl, _, rfl, ?_⟩
              rw [h2]
              refine iteF ⟨_, rfl, _, rfl, iteF (iteF ⟨_, rfl, _, rfl, ?_⟩)⟩
              rw [optV_non]
              cases shows with
              | none => exact iteF (iteF (k4 rfl _ sm))
              | some z =>
                refine iteT ⟨_, rfl, rfl, _, rfl, ?_⟩
                rw [dec_str]
                cases hwr : decide (way = ("rest" : Str)) with
                | false => exact iteT (iteT (k5 (by simp [showsOk, hwr]) _ sm))
                | true =>
                  refine iteF ⟨_, rfl, _, _, rfl, rfl, _, rfl, ?_⟩
                  cases hz : decide ((1 : Int) ≤ z) with
                  | false => exact iteF ⟨_, rfl, iteT (k5 (by simp [showsOk, hz]) _ sm)⟩
                  | true =>
                    refine iteT ⟨_, rfl, _, _, rfl, rfl, _, rfl, ?_⟩
                    cases hz2 : decide (z ≤ many) with
                    | false => exact iteT (k5 (by simp [showsOk, hz2]) _ sm)
                    | true => exact iteF (k4 (by simp [showsOk, hwr, hz, hz2]) _ sm)
  · obtain ⟨fd, F⟩ := T.f_look_order
    exact F.kp
end
end FB

set_option maxRecDepth 100000
set_option maxHeartbeats 4000000
/-! The walks of fairbook/books.py. -/
namespace FB
open PySem PySem.Spec PyProof.Rows L2

/-! ### the sort -/
def encO (o : Ord) : PyData := .tuple [.int o.k1, .int o.place, .int o.num]
theorem leO_data : PySem.W.dataLe false encO = leO := by
  funext a b
  show (!PySem.W.dataLt (encO b) (encO a)) = _
  unfold encO
  rw [dataLt_iii]
  rfl
theorem enc_alike (l : List Ord) : PySem.W.AllAlike (l.map encO) := PySem.W.AllAlike.of fun b b' => by
  unfold encO
  simp [PySem.W.alike, PySem.W.alikeAll]
theorem encO_depth (o : Ord) : (encO o).depth ≤ 60 := by
  unfold encO
  simp [PyData.depth, PyData.depthAll]
theorem zip_fst {α β : Type} : ∀ {l : List α} {m : List β}, m.length = l.length → (l.zip m).map Prod.fst = l
  | [], [], _ => rfl
  | a :: l, b :: m, h => by
    rw [List.zip_cons_cons, List.map_cons, zip_fst (by simpa using h)]
theorem zip_snd {α β : Type} : ∀ {l : List α} {m : List β}, m.length = l.length → (l.zip m).map Prod.snd = m
  | [], [], _ => rfl
  | a :: l, b :: m, h => by
    rw [List.zip_cons_cons, List.map_cons, zip_snd (by simpa using h)]
theorem paired_zip {α β : Type} {F : α → β → Prop} : ∀ {l : List α} {m : List β}, Paired F l m → ∀ z ∈ l.zip m, F z.1 z.2
  | _, _, .nil, z, h => by cases h
  | _, _, .cons r t, z, h => by
    rw [List.zip_cons_cons] at h
    rcases List.mem_cons.mp h with e | h
    · rw [e]
      exact r
    · exact paired_zip t z h
section
variable {P : Program} {w : World} {K : PySem.W.Frag} {mg : Str → Option Value} {base : Heap}
def emptyB : Bk := { ords := [], many := 0, places := 0, last := none, traded := 0, calling := false }
def spBInit (K : PySem.W.Frag) : Sp := fun vs H Q _ => ∃ (p dx : Addr), vs = [.ref p] ∧ H p = some (.ins (CB K) dx []) ∧ ∀ (d : Addr) (H' : Hp), H d = none → BookAt K H' p d emptyB → SameBut p H H' → Q .non H'
theorem scBInit : FnScope ["self"] ["self"] (defScope s_B_init) := ⟨rfl, rfl, rfl, by decide +kernel, rfl, by decide +kernel, by decide +kernel⟩
theorem w_B_init (T : Tx K mg) : Cn P w K mg base CX0 1 "Book" ["self"] (spBInit K) := by
  refine ⟨ok0 T.f_B_init scBInit (fun _ _ _ _ _ _ us hl => match us, hl with | [_], _ => rfl) (fun vs H Q E h => ?_) (fun cdv A outer s H vs Q E hr h => ?_), T.mkB, T.g_Book⟩
  · obtain ⟨p, dx, rfl, _⟩ := h
    rfl
  · obtain ⟨p, dx, rfl, hp, k⟩ := h
    refine ⟨_, pss_cons (ps_fld (pv 0) pe_dnewK rfl) (pss_cons (ps_fld (pv 0) pe_int rfl) (pss_cons (ps_fld (pv 0) pe_int rfl) (pss_cons (ps_fld (pv 0) pe_non rfl)
      (pss_cons (ps_fld (pv 0) pe_int rfl) (pss_one (ps_fld (pv 0) pe_bl rfl)))))), ?_⟩
    intro d hd
    have npd : p ≠ d := ne_of_none hp hd
    refine ⟨_, rfl, p, _, dx, _, rfl, (by rw [upd_ne npd]; exact hp), T.clB, T.nB_orders, by show 0 < 1000; decide, ?_⟩
    refine ⟨_, rfl, p, _, dx, _, rfl, upd_same, T.clB, T.nB_many, by show 1 < 1000; decide, ?_⟩
    refine ⟨_, rfl, p, _, dx, _, rfl, upd_same, T.clB, T.nB_places, by show 2 < 1000; decide, ?_⟩
    refine ⟨_, rfl, p, _, dx, _, rfl, upd_same, T.clB, T.nB_price, by show 3 < 1000; decide, ?_⟩
    refine ⟨_, rfl, p, _, dx, _, rfl, upd_same, T.clB, T.nB_traded, by show 4 < 1000; decide, ?_⟩
    refine ⟨_, rfl, p, _, dx, _, rfl, upd_same, T.clB, T.nB_calling, by show 5 < 1000; decide, ?_⟩
    refine k d _ hd (BookAt.mk ⟨dx, upd_same⟩ ?_ (fun o ho => by cases ho) List.nodup_nil List.nodup_nil) fun b u hb e => ?_
    · rw [upd_ne npd.symm, upd_ne npd.symm, upd_ne npd.symm, upd_ne npd.symm, upd_ne npd.symm, upd_ne npd.symm, upd_same]
      rfl
    · rw [upd_ne hb, upd_ne hb, upd_ne hb, upd_ne hb, upd_ne hb, upd_ne hb, upd_ne (ne_of_none e hd)]
      exact e
/-- the book, its dict locked -/
structure BookL (K : PySem.W.Frag) (H : Hp) (b d : Addr) (od : Obj) (B : Bk) : Prop where
  bk : ∃ dx, H b = some (.ins (CB K) dx (bkF d B))
  dc : H d = some (.frz od (.dK (B.ords.map entry)))
  os : ∀ o ∈ B.ords, OrdAt K H o
theorem BookL.same {H H' : Hp} {b d : Addr} {od : Obj} {B : Bk} (h : BookL K H b d od B) (s : L2.Same H H') : BookL K H' b d od B :=
  ⟨let ⟨dx, e⟩ := h.bk; ⟨dx, s _ _ e⟩, s _ _ h.dc, fun o ho => (h.os o ho).same s⟩
theorem BookAt.lock {H : Hp} {b d : Addr} {B : Bk} (h : BookAt K H b d B) (od : Obj) : BookL K (upd H d (.frz od (.dK (B.ords.map entry)))) b d od B :=
  ⟨let ⟨dx, e⟩ := h.bk; ⟨dx, by rw [upd_ne h.bd]; exact e⟩, upd_same, fun o ho => (h.os o ho).but sb_upd ((h.os o ho).nd h)⟩
theorem same_unlock {H H' : Hp} {d : Addr} {od : Obj} {u : HO} (hd : H d = some u) (s : L2.Same (upd H d (.frz od u)) H') : L2.Same H (upd H' d u) := fun b x e => by
  by_cases hb : b = d
  · subst hb
    rw [upd_same, ← hd]
    exact e
  · rw [upd_ne hb]
    exact s b x (by rw [upd_ne hb]; exact e)
theorem rl_orders (T : Tx K mg) {H : Hp} {b d : Addr} {od : Obj} {B : Bk} (h : BookL K H b d od B) {Q : V → Prop} (q : Q (.ref d)) : ∃ a C dx fs v, V.ref b = .ref a ∧ H a = some (.ins C dx fs) ∧ Cls K C ∧ NoAttr K C "orders" ∧ fs.lookup ("orders" : Str) = some v ∧ Q v := let ⟨_, e⟩ := h.bk; rf e T.clB T.nB_orders rfl q
theorem getL {H : Hp} {b d : Addr} {od : Obj} {B : Bk} (h : BookL K H b d od B) (hn : (B.ords.map (·.num)).Nodup) {o : Ord} (ho : o ∈ B.ords) : DGet H d (.int o.num) (some (.ref o.ad)) := .inl ⟨_, Sum.inl o.num, .inr ⟨od, h.dc⟩, rfl, (val_entry hn ho).symm⟩
theorem getB {H : Hp} {b d : Addr} {B : Bk} (h : BookAt K H b d B) {o : Ord} (ho : o ∈ B.ords) : DGet H d (.int o.num) (some (.ref o.ad)) := .inl ⟨_, Sum.inl o.num, .inl h.dc, rfl, (val_entry h.ndn ho).symm⟩
/-- the book as it may be read, its dict locked or not -/
structure BookR (K : PySem.W.Frag) (H : Hp) (b d : Addr) (B : Bk) : Prop where
  bk : ∃ dx, H b = some (.ins (CB K) dx (bkF d B))
  dc : Rd H d (.dK (B.ords.map entry))
  os : ∀ o ∈ B.ords, OrdAt K H o
  ndn : (B.ords.map (·.num)).Nodup
theorem BookAt.r {H : Hp} {b d : Addr} {B : Bk} (h : BookAt K H b d B) : BookR K H b d B := ⟨h.bk, .inl h.dc, h.os, h.ndn⟩
theorem BookL.r {H : Hp} {b d : Addr} {od : Obj} {B : Bk} (h : BookL K H b d od B) (n : (B.ords.map (·.num)).Nodup) : BookR K H b d B := ⟨h.bk, .inr ⟨od, h.dc⟩, h.os, n⟩
theorem BookR.same {H H' : Hp} {b d : Addr} {B : Bk} (h : BookR K H b d B) (s : L2.Same H H') : BookR K H' b d B :=
  ⟨let ⟨dx, e⟩ := h.bk; ⟨dx, s _ _ e⟩, h.dc.imp (s _ _) (fun ⟨od, e⟩ => ⟨od, s _ _ e⟩), fun o ho => (h.os o ho).same s, h.ndn⟩
theorem rr_orders (T : Tx K mg) {H : Hp} {b d : Addr} {B : Bk} (h : BookR K H b d B) {Q : V → Prop} (q : Q (.ref d)) : ∃ a C dx fs v, V.ref b = .ref a ∧ H a = some (.ins C dx fs) ∧ Cls K C ∧ NoAttr K C "orders" ∧ fs.lookup ("orders" : Str) = some v ∧ Q v := let ⟨_, e⟩ := h.bk; rf e T.clB T.nB_orders rfl q
theorem getR {H : Hp} {b d : Addr} {B : Bk} (h : BookR K H b d B) {o : Ord} (ho : o ∈ B.ords) : DGet H d (.int o.num) (some (.ref o.ad)) := .inl ⟨_, Sum.inl o.num, h.dc, rfl, (val_entry h.ndn ho).symm⟩
theorem mR {H : Hp} {b d : Addr} {B : Bk} {m : Str} {R : Addr → Prop} (h : BookR K H b d B) (l : (bkF d B).lookup m = none) (q : R b) : ∃ a dx fs, V.ref b = .ref a ∧ H a = some (.ins (CB K) dx fs) ∧ fs.lookup m = none ∧ R a := let ⟨dx, e⟩ := h.bk; ⟨b, dx, _, rfl, e, l, q⟩
/-- orders that rest have a price -/
def Priced (os : List Ord) : Prop := ∀ o ∈ os, o.price = some o.pr
abbrev refO (o : Ord) : V := .ref o.ad
def spRow (K : PySem.W.Frag) : Sp := fun vs H Q _ => ∃ (b d : Addr) (B : Bk) (side : Bool), vs = [.ref b, .str (sideStr side)] ∧ BookR K H b d B ∧ Priced B.ords ∧ B.ords.length ≤ 1000 ∧
  ∀ H' r, L2.Same H H' → H r = none → H' r = some (.lst ((row B.ords side).map refO)) → Q (.ref r) H'
theorem scRow : FnScope ["self", "side", "rows", "number", "row"] ["self", "side"] (defScope s_B_row) := ⟨rfl, rfl, rfl, by decide +kernel, rfl, by decide +kernel, by decide +kernel⟩
theorem side_eq (a b : Bool) : decide (V.str (sideStr a) = V.str (sideStr b)) = (a == b) := by cases a <;> cases b <;> decide +kernel
abbrev ttRow (K : PySem.W.Frag) : TT := tTest (tOp rEq (tFld K (tDGet (tFld K (tVar 0) "orders") (tVar 3)) "side") (tVar 1))
abbrev teRow (K : PySem.W.Frag) : TE := tOp (rCatT K) (tMeth (CO K) "rank" (spRank K) [] E0 (tDGet (tFld K (tVar 0) "orders") (tVar 3)) tNil) (tTup (tCons (tVar 3) tNil))
abbrev te2Row (K : PySem.W.Frag) : TE := tDGet (tFld K (tVar 0) "orders") (tOp (rIxT K) (tVar 4) (tC (.int 2)))
/-- the ranks of a side's orders, the dict locked -/
theorem row_inner (T : Tx K mg) {H : Hp} {b d : Addr} {od : Obj} {B : Bk} {side : Bool} {Q : VK} (hL : BookL K H b d od B) (hn : (B.ords.map (·.num)).Nodup) (hpr : Priced B.ords) (hlen : B.ords.length ≤ 1000)
    (k : ∀ H1 D ys, L2.Same H H1 → H D = none → H1 D = some (.lst ys) → Paired (fun o y => ∃ t, y = .ref t ∧ H1 t = some (.tup [.int o.k1, .int o.place, .int o.num])) (B.ords.filter fun o => o.buy == side) ys → Q (.ref D) H1) :
    tLc (iKeys (tFld K (tVar 0) "orders")) (gName 3) (ttRow K) (teRow K) [3] [some (.ref b), some (.str (sideStr side)), none, none, none] H Q := by
  refine ⟨_, rfl, rl_orders T hL ⟨d, od, rfl, .inl ⟨_, hL.dc, fun D hD => ?_⟩⟩⟩
  refine lc_relK (zs := B.ords) (kf := entry) (p := fun o => o.buy == side) (R := fun o y H => ∃ t, y = .ref t ∧ H t = some (.tup [.int o.k1, .int o.place, .int o.num])) hL.dc (Nat.le_of_lt (small1000 hlen)) hD ?_ ?_ ?_
  · rintro o y H1 H2 xs hx sb ⟨t, rfl, ht⟩
    exact ⟨t, rfl, sb t _ (ne_of ht hx (by intro z; cases z)) ht⟩
  · intro o ho H1 s1 Qy Qn qy qn
    have hL1 := hL.same s1
    refine ⟨rfl, _, rfl, rl_orders T hL1 ⟨_, rfl, d, _, rfl, getL hL1 hn ho, ro_side T (hL1.os o ho) ⟨_, rfl, rfl, _, rfl, ?_⟩⟩⟩
    rw [side_eq]
    cases e : (o.buy == side) with
    | false => exact iteF (qn e H1 (L2.Same.refl _))
    | true =>
      obtain ⟨dx, hx⟩ := hL1.os o ho
      refine iteT ⟨_, rfl, rl_orders T hL1 ⟨_, rfl, d, _, rfl, getL hL1 hn ho, o.ad, dx, _, rfl, hx, rfl, o, rfl, ⟨dx, hx⟩, hpr o ho, fun t ht => ?_⟩⟩
      refine ⟨_, rfl, by show 1 ≤ sizeLine; decide, fun t2 ht2 => ⟨t, t2, _, _, rfl, rfl, SqT.of (by rw [upd_ne (ne_of_none upd_same ht2)]; exact upd_same), SqT.of upd_same, by simp, by show 3 ≤ sizeLine; decide, (fun z => by cases z), fun z p hp => ?_⟩⟩
      exact qy e _ _ (same_upd (same_upd (same_new ht) ht2) hp) ⟨p, rfl, upd_same⟩
  · intro H1 ys s1 hDy hP
    exact k H1 D ys s1 hD hDy hP
/-- sorted, and the orders by them -/
theorem row_outer (T : Tx K mg) {H : Hp} {b d D : Addr} {B : Bk} {side : Bool} {ys : List V} {Q : VK} (hR : BookR K H b d B) (hlen : B.ords.length ≤ 1000) (hD : H D = some (.lst ys))
    (hP : Paired (fun o y => ∃ t, y = .ref t ∧ H t = some (.tup [.int o.k1, .int o.place, .int o.num])) (B.ords.filter fun o => o.buy == side) ys)
    (k : ∀ H' r, L2.Same H H' → H r = none → H' r = some (.lst ((row B.ords side).map refO)) → Q (.ref r) H') :
    rSortedD K [.ref D] H fun x H1 => (tRet (tLc (iList K (tVar 2)) (gName 4) tYes (te2Row K) [4])) { nx := fun _ H' => Q .non H', rt := Q } [some (.ref b), some (.str (sideStr side)), some x, none, none] H1 := by
  have len := paired_len hP
  have tup := paired_zip hP
  refine ⟨D, Ord × V, (B.ords.filter fun o => o.buy == side).zip ys, Prod.snd, fun z => encO z.1, rfl, SqL.of (by rw [zip_snd len]; exact hD), fun z hz => ?_,
    PySem.W.AllAlike.of (fun b b' => by unfold encO; simp [PySem.W.alike, PySem.W.alikeAll]), PySem.W.Sortable.tuples (fun b => ⟨_, _, rfl⟩), fun z _ => encO_depth _, fun p hp => ?_⟩
  · obtain ⟨t, e, ht⟩ := tup z hz
    show Dp K _ z.2 (encO z.1)
    rw [e]
    exact Dp.tup (SqT.of ht) (.cons (.int _) (.cons (.int _) (.cons (.int _) .nil)))
  · refine ⟨_, rfl, p, rfl, ⟨_, SqL.of upd_same⟩, fun D2 hD2 => ?_⟩
    have sm2 := same_new (o := .lst ((((B.ords.filter fun o => o.buy == side).zip ys).mergeSort (PySem.W.dataLe false fun z => encO z.1)).map Prod.snd)) hp
    have hms : (((B.ords.filter fun o => o.buy == side).zip ys).mergeSort (PySem.W.dataLe false fun z => encO z.1)).map Prod.fst = row B.ords side := by
      have e1 := PySem.W.sort_maps (r := PySem.W.dataLe false fun z : Ord × V => encO z.1) (s := leO) Prod.fst (l := (B.ords.filter fun o => o.buy == side).zip ys) (fun a _ b _ => by rw [← leO_data]; rfl)
      rw [zip_fst len] at e1
      exact e1
    refine lc_rel (K := K) (zs := ((B.ords.filter fun o => o.buy == side).zip ys).mergeSort (PySem.W.dataLe false fun z => encO z.1)) (enc := Prod.snd) (p := fun _ => true) (R := fun z y _ => y = .ref z.1.ad) (SqL.of upd_same) ?_ hD2 (fun _ _ _ _ _ _ _ h => h) ?_ ?_
    · rw [List.length_mergeSort, List.length_zip]
      have h1 : (B.ords.filter fun o => o.buy == side).length ≤ B.ords.length := List.length_filter_le _ _
      have h2 := small1000 hlen
      omega
    · intro z hz H3 s3 Qy Qn qy qn
      have hz' := List.mem_mergeSort.mp hz
      obtain ⟨t, e, ht⟩ := tup z hz'
      have ho : z.1 ∈ B.ords := (List.mem_filter.mp (List.of_mem_zip hz').1).1
      have hB3 := (hR.same sm2).same s3
      have ht3 := s3 _ _ (sm2 _ _ ht)
      exact ⟨rfl, iteT (B := Qn H3) ⟨_, rfl, rr_orders T hB3 ⟨_, rfl, t, _, _, _, e, rfl, SqT.of ht3, rfl, d, _, rfl, getR hB3 ho, qy rfl _ H3 (L2.Same.refl _) rfl⟩⟩⟩
    · intro H3 ys3 s3 hD3 hP3
      refine k H3 D2 (sm2.trans s3) (sm2.free hD2) ?_
      rw [hD3, paired_eq hP3, ← hms, List.map_map, List.filter_eq_self.mpr (fun _ _ => rfl)]
      rfl
theorem w_row (T : Tx K mg) : Mt P w K mg base CX0 2 "Book" "row" ["self", "side"] (spRow K) := by
  refine ⟨ok0 T.f_B_row scRow (fun _ _ _ _ _ _ us hl => match us, hl with | [_, _], _ => rfl) (fun vs H Q E h => ?_) (fun cdv A outer s H vs Q E hr h => ?_), T.clB, T.m_B_row⟩
  · obtain ⟨b, d, B, side, rfl, _⟩ := h
    rfl
  · obtain ⟨b, d, B, side, rfl, hB, hpr, hlen, k⟩ := h
    have GR : Mt P w K mg base CX0 1 "Order" "rank" ["self"] (spRank K) := w_rank T
    have hu := hu_of hr
    rcases hB.dc with hd | ⟨od, hd⟩
    · refine ⟨_, pss_cons (ps_set (i := 2) scRow.nd rfl (Or.inl rfl) (pe_callB (cr_sortedD hr) (by rfl) T.z_sorted boot_sorted (pa_cons
          (pe_lock (pe_lc (own := [("number", 3)]) (g := gName 3) (tt := ttRow K) (te := teRow K) rfl scRow.nd (pi_keys (pe_fld (pv 0) rfl)) (blkOk_by (N := ["self", "side", "rows", "number", "row"]) (sc := defScope s_B_row) (by decide +kernel)) (fun _ _ _ _ _ => pg_name (i := 3) scRow.nd rfl (Or.inl rfl))
            (fun _ _ _ _ _ => pts_one (pt_cmpR op_eq (pe_fld (pe_dget hu (pe_fld (pv 0) rfl) (pv 3) (fun _ _ => rfl)) rfl) (pv 1) (nomark _)))
            (fun _ _ _ _ _ => pe_op op_catT (pe_mt0 (pe_dget hu (pe_fld (pv 0) rfl) (pv 3) (fun _ _ => rfl)) GR hr pass0) (pe_tup (pa_cons (pv 3) pa_nil))))) pa_nil)))
        (pss_one (ps_ret (pe_lc (own := [("row", 4)]) (g := gName 4) (tt := tYes) (te := te2Row K) rfl scRow.nd (pi_list (pv 2)) (blkOk_by (N := ["self", "side", "rows", "number", "row"]) (sc := defScope s_B_row) (by decide +kernel)) (fun _ _ _ _ _ => pg_name (i := 4) scRow.nd rfl (Or.inl rfl))
            (fun _ _ _ _ _ => pts_nil) (fun _ _ _ _ _ => pe_dget hu (pe_fld (pv 0) rfl) (pe_ix ix_tup (pv 4) pe_int (fun _ _ => rfl)) (fun _ _ => rfl))))), ?_⟩
      refine ⟨d, _, hd, trivial, fun od => ?_⟩
      have nd : b ≠ d := by
        obtain ⟨dx, e⟩ := hB.bk
        exact ne_of e hd (by intro z; cases z)
      have hL : BookL K (upd H d (.frz od (.dK (B.ords.map entry)))) b d od B :=
        ⟨let ⟨dx, e⟩ := hB.bk; ⟨dx, by rw [upd_ne nd]; exact e⟩, upd_same, fun o ho => (hB.os o ho).but sb_upd (let ⟨_, e⟩ := hB.os o ho; ne_of e hd (by intro z; cases z))⟩
      refine row_inner T hL hB.ndn hpr hlen fun H1 D ys s1 hD hDy hP => ?_
      have hd1 := s1 _ _ hL.dc
      have nDd : D ≠ d := (ne_of_none hL.dc hD).symm
      have sm1 : L2.Same H (upd H1 d (.dK (B.ords.map entry))) := same_unlock hd s1
      refine ⟨hd1, row_outer T (hB.same sm1) hlen (by rw [upd_ne nDd]; exact hDy) (paired_map (fun o y ⟨t, e, ht⟩ => ⟨t, e, by rw [upd_ne (ne_of ht hd1 (by intro z; cases z))]; exact ht⟩) hP) fun H' r s' hr' er => k H' r (sm1.trans s') (sm1.free hr') er⟩
    · refine ⟨_, pss_cons (ps_set (i := 2) scRow.nd rfl (Or.inl rfl) (pe_callB (cr_sortedD hr) (by rfl) T.z_sorted boot_sorted (pa_cons
          (pe_lc (own := [("number", 3)]) (g := gName 3) (tt := ttRow K) (te := teRow K) rfl scRow.nd (pi_keys (pe_fld (pv 0) rfl)) (blkOk_by (N := ["self", "side", "rows", "number", "row"]) (sc := defScope s_B_row) (by decide +kernel)) (fun _ _ _ _ _ => pg_name (i := 3) scRow.nd rfl (Or.inl rfl))
            (fun _ _ _ _ _ => pts_one (pt_cmpR op_eq (pe_fld (pe_dget hu (pe_fld (pv 0) rfl) (pv 3) (fun _ _ => rfl)) rfl) (pv 1) (nomark _)))
            (fun _ _ _ _ _ => pe_op op_catT (pe_mt0 (pe_dget hu (pe_fld (pv 0) rfl) (pv 3) (fun _ _ => rfl)) GR hr pass0) (pe_tup (pa_cons (pv 3) pa_nil)))) pa_nil)))
        (pss_one (ps_ret (pe_lc (own := [("row", 4)]) (g := gName 4) (tt := tYes) (te := te2Row K) rfl scRow.nd (pi_list (pv 2)) (blkOk_by (N := ["self", "side", "rows", "number", "row"]) (sc := defScope s_B_row) (by decide +kernel)) (fun _ _ _ _ _ => pg_name (i := 4) scRow.nd rfl (Or.inl rfl))
            (fun _ _ _ _ _ => pts_nil) (fun _ _ _ _ _ => pe_dget hu (pe_fld (pv 0) rfl) (pe_ix ix_tup (pv 4) pe_int (fun _ _ => rfl)) (fun _ _ => rfl))))), ?_⟩
      have hL : BookL K H b d od B := ⟨hB.bk, hd, hB.os⟩
      unfold tSeq tAsg tCB tCons
      refine row_inner T hL hB.ndn hpr hlen fun H1 D ys s1 hD hDy hP => ?_
      exact row_outer T (hB.same s1) hlen hDy hP fun H' r s' hr' er => k H' r (s1.trans s') (s1.free hr') er
theorem mB {H : Hp} {b d : Addr} {B : Bk} {m : Str} {R : Addr → Prop} (h : BookAt K H b d B) (l : (bkF d B).lookup m = none) (q : R b) : ∃ a dx fs, V.ref b = .ref a ∧ H a = some (.ins (CB K) dx fs) ∧ fs.lookup m = none ∧ R a := let ⟨dx, e⟩ := h.bk; ⟨b, dx, _, rfl, e, l, q⟩
theorem mO {H : Hp} {o : Ord} {m : Str} {R : Addr → Prop} (h : OrdAt K H o) (l : (ordF o).lookup m = none) (q : R o.ad) : ∃ a dx fs, V.ref o.ad = .ref a ∧ H a = some (.ins (CO K) dx fs) ∧ fs.lookup m = none ∧ R a := let ⟨dx, e⟩ := h; ⟨o.ad, dx, _, rfl, e, l, q⟩
def spResting (K : PySem.W.Frag) : Sp := fun vs H Q _ => ∃ (b d : Addr) (B : Bk) (side : Bool), vs = [.ref b, .str (sideStr side)] ∧ BookAt K H b d B ∧ Priced B.ords ∧ B.ords.length ≤ 1000 ∧
  ∀ H' r, L2.Same H H' → H r = none → H' r = some (.lst ((resting B.ords side).map V.int)) → Q (.ref r) H'
theorem scResting : FnScope ["self", "side", "order"] ["self", "side"] (defScope s_B_resting) := ⟨rfl, rfl, rfl, by decide +kernel, rfl, by decide +kernel, by decide +kernel⟩
theorem w_resting (T : Tx K mg) : Mt P w K mg base CX0 3 "Book" "resting" ["self", "side"] (spResting K) := by
  refine ⟨ok0 T.f_B_resting scResting (fun _ _ _ _ _ _ us hl => match us, hl with | [_, _], _ => rfl) (fun vs H Q E h => ?_) (fun cdv A outer s H vs Q E hr h => ?_), T.clB, T.m_B_resting⟩
  · obtain ⟨b, d, B, side, rfl, _⟩ := h
    rfl
  · obtain ⟨b, d, B, side, rfl, hB, hpr, hlen, k⟩ := h
    have GR : Mt P w K mg base CX0 2 "Book" "row" ["self", "side"] (spRow K) := w_row T
    refine ⟨_, pss_one (ps_ret (pe_lc (own := [("order", 2)]) (g := gName 2) (tt := tYes) (te := tFld K (tVar 2) "number") rfl scResting.nd (pi_list (pe_mt (pv 0) GR hr pass0 (pa_cons (pv 1) pa_nil)))
      (blkOk_by (N := ["self", "side", "order"]) (sc := defScope s_B_resting) (by decide +kernel)) (fun _ _ _ _ _ => pg_name (i := 2) scResting.nd rfl (Or.inl rfl)) (fun _ _ _ _ _ => pts_nil) (fun _ _ _ _ _ => pe_fld (pv 2) rfl))), ?_⟩
    refine ⟨_, rfl, mB hB rfl ⟨_, rfl, b, d, B, side, rfl, hB.r, hpr, hlen, fun H1 r s1 hn hr1 => ⟨r, rfl, ⟨_, SqL.of hr1⟩, fun D hD => ?_⟩⟩⟩
    refine lc_rel (K := K) (zs := row B.ords side) (enc := refO) (p := fun _ => true) (R := fun z y _ => y = .int z.num) (SqL.of hr1) (Nat.le_trans (row_len _ _) (Nat.le_of_lt (small1000 hlen))) hD (fun _ _ _ _ _ _ _ h => h) ?_ ?_
    · intro z hz H3 s3 Qy Qn qy qn
      exact ⟨rfl, iteT (B := Qn H3) ⟨_, rfl, ro_number T ((hB.os z (row_mem.mp hz).1).same (s1.trans s3)) (qy rfl _ H3 (L2.Same.refl _) rfl)⟩⟩
    · intro H3 ys3 s3 hD3 hP3
      refine k H3 D (s1.trans s3) (s1.free hD) ?_
      rw [hD3, paired_eq hP3, List.filter_eq_self.mpr (fun _ _ => rfl)]
      unfold resting
      rw [List.map_map]
      rfl
def spNeed (K : PySem.W.Frag) : Sp := fun vs H Q E => ∃ (b d : Addr) (B : Bk) (n : Int), vs = [.ref b, .int n] ∧ BookAt K H b d B ∧ (∀ o, findO B.ords n = some o → Q (.ref o.ad) H) ∧ (findO B.ords n = none → E (.ref (He.ga K "NotThere")) none H)
theorem scNeed : FnScope ["self", "number"] ["self", "number"] (defScope s_B_need) := ⟨rfl, rfl, rfl, by decide +kernel, rfl, by decide +kernel, by decide +kernel⟩
theorem w_need (T : Tx K mg) : Mt P w K mg base (L2.CX P w) 1 "Book" "need" ["self", "number"] (spNeed K) := by
  refine ⟨okX T.f_B_need scNeed (fun _ _ _ _ _ _ us hl => match us, hl with | [_, _], _ => rfl) (fun vs H Q E h => ?_) (fun cdv A outer s H vs Q E hr h => ?_), T.clB, T.m_B_need⟩
  · obtain ⟨b, d, B, n, rfl, _⟩ := h
    rfl
  · obtain ⟨b, d, B, n, rfl, hB, k1, k2⟩ := h
    obtain ⟨xP, kP, bP, tP⟩ := T.e_NotThere
    have hu := hu_of hr
    refine ⟨_, pss_cons (ps_if (pt_cmp (pc_dnotin hu (pv 1) (pe_fld (pv 0) rfl))) (pss_one (ps_raise rfl (takes_of rfl rfl rfl rfl) (pmk_own PySem.F.excBase_ValueError xP T.g_NotThere kP (raises_own bP tP) rfl))) pss_nil)
      (pss_one (ps_ret (pe_dget hu (pe_fld (pv 0) rfl) (pv 1) (fun _ _ => rfl)))), ?_⟩
    refine ⟨_, rfl, _, rfl, rb_orders T hB ⟨d, _, rfl, DGet.k (k := Sum.inl n) hB.dc, _, rfl, ?_⟩⟩
    cases e : findO B.ords n with
    | none =>
      rw [val_none e]
      exact iteT (k2 e)
    | some o =>
      obtain ⟨ho, hn⟩ := find_some e
      have hv := val_entry hB.ndn ho
      rw [hn] at hv
      rw [hv]
      exact iteF ⟨_, rfl, rb_orders T hB ⟨_, rfl, d, _, rfl, by rw [← hv]; exact DGet.k (k := Sum.inl n) hB.dc, k1 o e⟩⟩
def spLeft (K : PySem.W.Frag) : Sp := fun vs H Q E => ∃ (b d : Addr) (B : Bk) (n : Int), vs = [.ref b, .int n] ∧ BookAt K H b d B ∧ (∀ o, findO B.ords n = some o → Q (.int o.rest) H) ∧ (findO B.ords n = none → E (.ref (He.ga K "NotThere")) none H)
theorem scLeft : FnScope ["self", "number"] ["self", "number"] (defScope s_B_left) := ⟨rfl, rfl, rfl, by decide +kernel, rfl, by decide +kernel, by decide +kernel⟩
theorem w_left (T : Tx K mg) : Mt P w K mg base (L2.CX P w) 2 "Book" "left" ["self", "number"] (spLeft K) := by
  refine ⟨okX T.f_B_left scLeft (fun _ _ _ _ _ _ us hl => match us, hl with | [_, _], _ => rfl) (fun vs H Q E h => ?_) (fun cdv A outer s H vs Q E hr h => ?_), T.clB, T.m_B_left⟩
  · obtain ⟨b, d, B, n, rfl, _⟩ := h
    rfl
  · obtain ⟨b, d, B, n, rfl, hB, k1, k2⟩ := h
    have GN : Mt P w K mg base (L2.CX P w) 1 "Book" "need" ["self", "number"] (spNeed K) := w_need T
    refine ⟨_, pss_one (ps_ret (pe_fld (pe_mt (pv 0) GN hr (passes_call (takes_of rfl rfl rfl rfl) (fun _ _ _ _ h => h)) (pa_cons (pv 1) pa_nil)) rfl)), ?_⟩
    refine ⟨_, rfl, mB hB rfl ⟨_, rfl, b, d, B, n, rfl, hB, fun o e => ro_rest T (hB.os o (find_some e).1) (k1 o e), k2⟩⟩
def spShown (K : PySem.W.Frag) : Sp := fun vs H Q E => ∃ (b d : Addr) (B : Bk) (n : Int), vs = [.ref b, .int n] ∧ BookAt K H b d B ∧ (∀ o, findO B.ords n = some o → Q (.int o.part) H) ∧ (findO B.ords n = none → E (.ref (He.ga K "NotThere")) none H)
theorem scShown : FnScope ["self", "number"] ["self", "number"] (defScope s_B_shown) := ⟨rfl, rfl, rfl, by decide +kernel, rfl, by decide +kernel, by decide +kernel⟩
theorem w_shown (T : Tx K mg) : Mt P w K mg base (L2.CX P w) 2 "Book" "shown" ["self", "number"] (spShown K) := by
  refine ⟨okX T.f_B_shown scShown (fun _ _ _ _ _ _ us hl => match us, hl with | [_, _], _ => rfl) (fun vs H Q E h => ?_) (fun cdv A outer s H vs Q E hr h => ?_), T.clB, T.m_B_shown⟩
  · obtain ⟨b, d, B, n, rfl, _⟩ := h
    rfl
  · obtain ⟨b, d, B, n, rfl, hB, k1, k2⟩ := h
    have GN : Mt P w K mg base (L2.CX P w) 1 "Book" "need" ["self", "number"] (spNeed K) := w_need T
    refine ⟨_, pss_one (ps_ret (pe_fld (pe_mt (pv 0) GN hr (passes_call (takes_of rfl rfl rfl rfl) (fun _ _ _ _ h => h)) (pa_cons (pv 1) pa_nil)) rfl)), ?_⟩
    refine ⟨_, rfl, mB hB rfl ⟨_, rfl, b, d, B, n, rfl, hB, fun o e => ro_part T (hB.os o (find_some e).1) (k1 o e), k2⟩⟩
def spLast (K : PySem.W.Frag) : Sp := fun vs H Q _ => ∃ (b d : Addr) (B : Bk), vs = [.ref b] ∧ BookAt K H b d B ∧ Q (optV B.last) H
theorem scLast : FnScope ["self"] ["self"] (defScope s_B_last) := ⟨rfl, rfl, rfl, by decide +kernel, rfl, by decide +kernel, by decide +kernel⟩
theorem w_last (T : Tx K mg) : Mt P w K mg base CX0 1 "Book" "last" ["self"] (spLast K) := by
  refine ⟨ok0 T.f_B_last scLast (fun _ _ _ _ _ _ us hl => match us, hl with | [_], _ => rfl) (fun vs H Q E h => ?_) (fun cdv A outer s H vs Q E hr h => ?_), T.clB, T.m_B_last⟩
  · obtain ⟨b, d, B, rfl, _⟩ := h
    rfl
  · obtain ⟨b, d, B, rfl, hB, k⟩ := h
    exact ⟨_, pss_one (ps_ret (pe_fld (pv 0) rfl)), _, rfl, rb_price T hB k⟩
def spVolume (K : PySem.W.Frag) : Sp := fun vs H Q _ => ∃ (b d : Addr) (B : Bk), vs = [.ref b] ∧ BookAt K H b d B ∧ Q (.int B.traded) H
theorem scVolume : FnScope ["self"] ["self"] (defScope s_B_volume) := ⟨rfl, rfl, rfl, by decide +kernel, rfl, by decide +kernel, by decide +kernel⟩
theorem w_volume (T : Tx K mg) : Mt P w K mg base CX0 1 "Book" "volume" ["self"] (spVolume K) := by
  refine ⟨ok0 T.f_B_volume scVolume (fun _ _ _ _ _ _ us hl => match us, hl with | [_], _ => rfl) (fun vs H Q E h => ?_) (fun cdv A outer s H vs Q E hr h => ?_), T.clB, T.m_B_volume⟩
  · obtain ⟨b, d, B, rfl, _⟩ := h
    rfl
  · obtain ⟨b, d, B, rfl, hB, k⟩ := h
    exact ⟨_, pss_one (ps_ret (pe_fld (pv 0) rfl)), _, rfl, rb_traded T hB k⟩
def spIsCalling (K : PySem.W.Frag) : Sp := fun vs H Q _ => ∃ (b d : Addr) (B : Bk), vs = [.ref b] ∧ BookAt K H b d B ∧ Q (.bl B.calling) H
theorem scIsCalling : FnScope ["self"] ["self"] (defScope s_B_is_calling) := ⟨rfl, rfl, rfl, by decide +kernel, rfl, by decide +kernel, by decide +kernel⟩
theorem w_is_calling (T : Tx K mg) : Mt P w K mg base CX0 1 "Book" "is_calling" ["self"] (spIsCalling K) := by
  refine ⟨ok0 T.f_B_is_calling scIsCalling (fun _ _ _ _ _ _ us hl => match us, hl with | [_], _ => rfl) (fun vs H Q E h => ?_) (fun cdv A outer s H vs Q E hr h => ?_), T.clB, T.m_B_is_calling⟩
  · obtain ⟨b, d, B, rfl, _⟩ := h
    rfl
  · obtain ⟨b, d, B, rfl, hB, k⟩ := h
    exact ⟨_, pss_one (ps_ret (pe_fld (pv 0) rfl)), _, rfl, rb_calling T hB k⟩
def spTrade (K : PySem.W.Frag) : Sp := fun vs H Q _ => ∃ (b d : Addr) (B : Bk) (p m : Int), vs = [.ref b, .int p, .int m] ∧ BookAt K H b d B ∧ ∀ H', BookAt K H' b d { B with last := some p, traded := B.traded + m } → SameBut b H H' → Q .non H'
theorem scTrade : FnScope ["self", "price", "many"] ["self", "price", "many"] (defScope s_B_trade) := ⟨rfl, rfl, rfl, by decide +kernel, rfl, by decide +kernel, by decide +kernel⟩
theorem w_trade (T : Tx K mg) : Mt P w K mg base CX0 1 "Book" "trade" ["self", "price", "many"] (spTrade K) := by
  refine ⟨ok0 T.f_B_trade scTrade (fun _ _ _ _ _ _ us hl => match us, hl with | [_, _, _], _ => rfl) (fun vs H Q E h => ?_) (fun cdv A outer s H vs Q E hr h => ?_), T.clB, T.m_B_trade⟩
  · obtain ⟨b, d, B, p, m, rfl, _⟩ := h
    rfl
  · obtain ⟨b, d, B, p, m, rfl, hB, k⟩ := h
    refine ⟨_, pss_cons (ps_fld (pv 0) (pv 1) rfl) (pss_one (ps_fld (pv 0) (pe_op op_add (pe_fld (pv 0) rfl) (pv 2)) rfl)), ?_⟩
    exact ⟨_, rfl, _, rfl, wb_price T hB fun H1 h1 s1 => ⟨_, rfl, rb_traded T h1 ⟨_, rfl, _, _, rfl, rfl, _, rfl, wb_traded T h1 fun H2 h2 s2 => k H2 h2 fun a x n e => s2 a x n (s1 a x n e)⟩⟩⟩
end
end FB

set_option maxRecDepth 100000
set_option maxHeartbeats 4000000
/-! The walks of put and of fairbook/trading.py. -/
namespace FB
open PySem PySem.Spec PyProof.Rows L2
/-! ### lists of orders -/
theorem updO_ad {os : List Ord} {o : Ord} (h : ∀ x ∈ os, x.num = o.num → x.ad = o.ad) : (updO os o).map (·.ad) = os.map (·.ad) := by
  unfold updO
  rw [List.map_map]
  refine List.map_congr_left fun x hx => ?_
  show (if x.num = o.num then o else x).ad = x.ad
  by_cases e : x.num = o.num
  · rw [if_pos e, h x hx e]
  · rw [if_neg e]
theorem updO_entry {os : List Ord} {o : Ord} (h : ∀ x ∈ os, x.num = o.num → x.ad = o.ad) : (updO os o).map entry = os.map entry := by
  unfold updO
  rw [List.map_map]
  refine List.map_congr_left fun x hx => ?_
  show entry (if x.num = o.num then o else x) = entry x
  by_cases e : x.num = o.num
  · rw [if_pos e]
    unfold entry
    rw [e, h x hx e]
  · rw [if_neg e]
theorem putK_entry {os : List Ord} {o : Ord} (h : ∀ x ∈ os, x.num = o.num → x.ad = o.ad) : putK (os.map entry) (Sum.inl o.num) (.ref o.ad) = (putO os o).map entry := by
  by_cases q : ∃ x ∈ os, x.num = o.num
  · rw [putO_there q, updO_entry h]
    unfold putK
    rw [if_pos]
    · rw [List.map_map]
      refine List.map_congr_left fun x hx => ?_
      show (if (entry x).1 = Sum.inl o.num then ((entry x).1, V.ref o.ad) else entry x) = entry x
      by_cases e : x.num = o.num
      · rw [if_pos (show (entry x).1 = Sum.inl o.num from congrArg Sum.inl e)]
        unfold entry
        rw [h x hx e]
      · rw [if_neg (show ¬ (entry x).1 = Sum.inl o.num from fun z => e (Sum.inl.inj z))]
    · obtain ⟨x, hx, e⟩ := q
      exact List.any_eq_true.mpr ⟨entry x, List.mem_map.mpr ⟨x, hx, rfl⟩, decide_eq_true (congrArg Sum.inl e)⟩
  · have q' : ∀ x ∈ os, x.num ≠ o.num := fun x hx e => q ⟨x, hx, e⟩
    rw [putO_new q', List.map_append]
    refine putK_new _ ?_
    have : findO os o.num = none := by
      unfold findO
      exact List.find?_eq_none.mpr fun x hx => by simpa using q' x hx
    exact val_none this
/-- o stands in the book, or nothing of it does -/
def InOrNew (os : List Ord) (o : Ord) : Prop := (∃ x ∈ os, x.num = o.num ∧ x.ad = o.ad) ∨ ∀ x ∈ os, x.ad ≠ o.ad ∧ x.num ≠ o.num
section
variable {P : Program} {w : World} {K : PySem.W.Frag} {mg : Str → Option Value} {base : Heap}
theorem BookAt.numAd {H : Hp} {b d : Addr} {B : Bk} (h : BookAt K H b d B) {o : Ord} (m : InOrNew B.ords o) : ∀ x ∈ B.ords, x.num = o.num → x.ad = o.ad := fun x hx e => by
  rcases m with ⟨y, hy, e1, e2⟩ | m
  · rw [nodup_inj h.ndn hx hy (e.trans e1.symm), e2]
  · exact absurd e (m x hx).2
theorem BookAt.adNum {H : Hp} {b d : Addr} {B : Bk} (h : BookAt K H b d B) {o : Ord} (m : InOrNew B.ords o) : ∀ x ∈ B.ords, x.ad = o.ad → x.num = o.num := fun x hx e => by
  rcases m with ⟨y, hy, e1, e2⟩ | m
  · rw [nodup_inj h.nda hx hy (e.trans e2.symm), e1]
  · exact absurd e (m x hx).1
/-- an order's object is changed -/
theorem BookAt.chg {H H' : Hp} {b d : Addr} {B : Bk} {o o' : Ord} (h : BookAt K H b d B) (ho : OrdAt K H o) (m : InOrNew B.ords o) (h' : OrdAt K H' o') (s : SameBut o.ad H H') (ea : o'.ad = o.ad) (en : o'.num = o.num) : BookAt K H' b d { B with ords := updO B.ords o' } := by
  have na : ∀ x ∈ B.ords, x.num = o'.num → x.ad = o'.ad := fun x hx e => by rw [ea]; exact h.numAd m x hx (e.trans en)
  refine ⟨let ⟨dx, e⟩ := h.bk; ⟨dx, s _ _ (Ne.symm (ho.nb h)) e⟩, ?_, fun x hx => ?_, ?_, ?_⟩
  · show H' d = some (.dK ((updO B.ords o').map entry))
    rw [updO_entry na]
    exact s _ _ (Ne.symm (ho.nd h)) h.dc
  · rcases mem_updO hx with ⟨e, _⟩ | ⟨hx, n⟩
    · rw [e]
      exact h'
    · exact (h.os x hx).but s fun z => n (by rw [en]; exact h.adNum m x hx z)
  · show ((updO B.ords o').map (·.ad)).Nodup
    rw [updO_ad na]
    exact h.nda
  · show ((updO B.ords o').map (·.num)).Nodup
    rw [updO_num]
    exact h.ndn
theorem BookAt.stored {H : Hp} {b d : Addr} {B : Bk} {o : Ord} (h : BookAt K H b d B) (ho : OrdAt K H o) (hm : o ∈ B.ords ∨ ∀ x ∈ B.ords, x.ad ≠ o.ad ∧ x.num ≠ o.num) : BookAt K (upd H d (.dK ((putO B.ords o).map entry))) b d { B with ords := putO B.ords o } := by
  have e1 : ∀ {x : Ord}, OrdAt K H x → OrdAt K (upd H d (.dK ((putO B.ords o).map entry))) x := fun hx => hx.but sb_upd (hx.nd h)
  refine ⟨let ⟨dx, e⟩ := h.bk; ⟨dx, by rw [upd_ne h.bd]; exact e⟩, upd_same, fun x hx => ?_, ?_, ?_⟩
  · rcases hm with hm | hm
    · have hx' : x ∈ updO B.ords o := by rw [← putO_there ⟨o, hm, rfl⟩]; exact hx
      rcases mem_updO hx' with ⟨e, _⟩ | ⟨hx, _⟩
      · rw [e]
        exact e1 ho
      · exact e1 (h.os x hx)
    · have hx' : x ∈ B.ords ++ [o] := by rw [← putO_new fun x hx => (hm x hx).2]; exact hx
      rcases List.mem_append.mp hx' with hx | hx
      · exact e1 (h.os x hx)
      · rw [List.mem_singleton.mp hx]
        exact e1 ho
  · show ((putO B.ords o).map (·.ad)).Nodup
    rcases hm with hm | hm
    · rw [putO_there ⟨o, hm, rfl⟩, updO_ad fun x hx e => by rw [nodup_inj h.ndn hx hm e]]
      exact h.nda
    · rw [putO_new fun x hx => (hm x hx).2, List.map_append]
      exact nd_snoc h.nda fun z => by
        obtain ⟨x, hx, e⟩ := List.mem_map.mp z
        exact (hm x hx).1 e
  · show ((putO B.ords o).map (·.num)).Nodup
    rcases hm with hm | hm
    · rw [putO_there ⟨o, hm, rfl⟩, updO_num]
      exact h.ndn
    · rw [putO_new fun x hx => (hm x hx).2, List.map_append]
      exact nd_snoc h.ndn fun z => by
        obtain ⟨x, hx, e⟩ := List.mem_map.mp z
        exact (hm x hx).2 e
theorem BookAt.dropped {H : Hp} {b d : Addr} {B : Bk} (h : BookAt K H b d B) (n : Int) : BookAt K (upd H d (.dK ((dropO B.ords n).map entry))) b d { B with ords := dropO B.ords n } := by
  refine ⟨let ⟨dx, e⟩ := h.bk; ⟨dx, by rw [upd_ne h.bd]; exact e⟩, upd_same, fun x hx => ?_, ?_, ?_⟩
  · have hx := h.os x (List.mem_filter.mp hx).1
    exact hx.but sb_upd (hx.nd h)
  · exact h.nda.sublist ((List.filter_sublist).map _)
  · exact h.ndn.sublist ((List.filter_sublist).map _)
theorem InOrNew.upd {os : List Ord} {o o' : Ord} (m : InOrNew os o) (ea : o'.ad = o.ad) (en : o'.num = o.num) : InOrNew (updO os o') o' := by
  rcases m with ⟨x, hx, e1, e2⟩ | m
  · refine .inl ⟨o', ?_, rfl, rfl⟩
    unfold updO
    exact List.mem_map.mpr ⟨x, hx, if_pos (e1.trans en.symm)⟩
  · refine .inr ?_
    rw [updO_none fun x hx => by rw [en]; exact (m x hx).2, ea, en]
    exact m
def spPut (K : PySem.W.Frag) : Sp := fun vs H Q _ => ∃ (b d : Addr) (B : Bk) (o : Ord), vs = [.ref b, .ref o.ad] ∧ BookAt K H b d B ∧ OrdAt K H o ∧ InOrNew B.ords o ∧ B.ords.length ≤ 1000 ∧
  ∀ H', BookAt K H' b d (B.put o) → (∃ o', o'.ad = o.ad ∧ o'.num = o.num ∧ o'.price = o.price ∧ OrdAt K H' o') → (∀ a x, H a = some x → a ≠ b → a ≠ d → a ≠ o.ad → H' a = some x) → Q .non H'
theorem scPut : FnScope ["self", "order"] ["self", "order"] (defScope s_B_put) := ⟨rfl, rfl, rfl, by decide +kernel, rfl, by decide +kernel, by decide +kernel⟩
theorem w_put (T : Tx K mg) : Mt P w K mg base CX0 2 "Book" "put" ["self", "order"] (spPut K) := by
  refine ⟨ok0 T.f_B_put scPut (fun _ _ _ _ _ _ us hl => match us, hl with | [_, _], _ => rfl) (fun vs H Q E h => ?_) (fun cdv A outer s H vs Q E hr h => ?_), T.clB, T.m_B_put⟩
  · obtain ⟨b, d, B, o, rfl, _⟩ := h
    rfl
  · obtain ⟨b, d, B, o, rfl, hB, ho, hm, hlen, k⟩ := h
    have GS : Mt P w K mg base CX0 1 "Order" "show" ["self"] (spShow K) := w_show T
    have hu := hu_of hr
    refine ⟨_, pss_cons (ps_fld (pv 0) (pe_op op_add (pe_fld (pv 0) rfl) pe_int) rfl) (pss_cons (ps_fld (pv 1) (pe_fld (pv 0) rfl) rfl)
      (pss_cons (ps_expr (pe_mt0 (pv 1) GS hr pass0)) (pss_one (ps_dput hu (pe_fld (pv 0) rfl) (pe_fld (pv 1) rfl) (pv 1) rfl)))), ?_⟩
    refine ⟨_, rfl, rb_places T hB ⟨_, _, rfl, rfl, _, rfl, wb_places T hB fun H1 hB1 s1 => ?_⟩⟩
    have ho1 : OrdAt K H1 o := ho.but s1 (ho.nb hB)
    refine ⟨_, rfl, rb_places T hB1 ⟨_, rfl, wo_place T ho1 fun H2 ho2 s2 => ?_⟩⟩
    have hB2 := hB1.chg ho1 hm ho2 s2 rfl rfl
    have hm2 : InOrNew (updO B.ords { o with place := B.places + 1 }) { o with place := B.places + 1 } := hm.upd rfl rfl
    refine ⟨_, rfl, mO (o := { o with place := B.places + 1 }) ho2 rfl ⟨{ o with place := B.places + 1 }, rfl, ho2, fun H3 ho3 s3 => ?_⟩⟩
    have hB3 := hB2.chg ho2 hm2 ho3 s3 rfl rfl
    have hm3 : InOrNew (updO B.ords ({ o with place := B.places + 1 } : Ord).show) ({ o with place := B.places + 1 } : Ord).show := by
      have e := updO_upd (os := B.ords) (o1 := { o with place := B.places + 1 }) (o2 := ({ o with place := B.places + 1 } : Ord).show) rfl
      rw [← e]
      exact hm2.upd rfl rfl
    have hB3' : BookAt K H3 b d { B with places := B.places + 1, ords := updO B.ords ({ o with place := B.places + 1 } : Ord).show } := by
      have e := updO_upd (os := B.ords) (o1 := { o with place := B.places + 1 }) (o2 := ({ o with place := B.places + 1 } : Ord).show) rfl
      rw [← e]
      exact hB3
    have fr : ∀ a x, H a = some x → a ≠ b → a ≠ o.ad → H3 a = some x := fun a x e n1 n2 => s3 a x n2 (s2 a x n2 (s1 a x n1 e))
    refine ⟨_, rfl, _, rfl, rb_orders T hB3' ⟨_, rfl, ro_number T ho3 ⟨d, _, rfl, DPut.k (k := Sum.inl o.num) hB3'.dc ?_, ?_⟩⟩⟩
    · rw [List.length_map]
      unfold updO
      rw [List.length_map]
      exact small1000 hlen
    · have ep : putK (((updO B.ords ({ o with place := B.places + 1 } : Ord).show)).map entry) (Sum.inl o.num) (.ref o.ad) = (putO B.ords ({ o with place := B.places + 1 } : Ord).show).map entry := by
        have e1 := putK_entry (os := updO B.ords ({ o with place := B.places + 1 } : Ord).show) (o := ({ o with place := B.places + 1 } : Ord).show) (hB3'.numAd hm3)
        exact e1.trans (congrArg (List.map entry) (putO_updO _ _))
      have eo := putO_updO B.ords ({ o with place := B.places + 1 } : Ord).show
      have hst := hB3'.stored ho3 (by
        rcases hm with ⟨x, hx, e2, e3⟩ | hm
        · exact .inl (mem_upd ⟨x, hx, e2⟩)
        · refine .inr ?_
          show ∀ x ∈ updO B.ords ({ o with place := B.places + 1 } : Ord).show, _
          rw [updO_none (o := ({ o with place := B.places + 1 } : Ord).show) fun x hx => (hm x hx).2]
          exact hm)
      have key : ∀ H4, H4 = upd H3 d (.dK (putK (((updO B.ords ({ o with place := B.places + 1 } : Ord).show)).map entry) (Sum.inl o.num) (.ref o.ad))) → Q .non H4 := fun H4 e4 => by
        rw [ep] at e4
        have hst' : BookAt K H4 b d (B.put o) := by
          rw [e4]
          show BookAt K _ b d { B with places := B.places + 1, ords := putO B.ords ({ o with place := B.places + 1 } : Ord).show }
          have hst2 : BookAt K (upd H3 d (.dK ((putO (updO B.ords ({ o with place := B.places + 1 } : Ord).show) ({ o with place := B.places + 1 } : Ord).show).map entry))) b d { B with places := B.places + 1, ords := putO (updO B.ords ({ o with place := B.places + 1 } : Ord).show) ({ o with place := B.places + 1 } : Ord).show } := hst
          rw [eo] at hst2
          exact hst2
        refine k H4 hst' ⟨({ o with place := B.places + 1 } : Ord).show, rfl, rfl, rfl, ?_⟩ fun a x e n1 n2 n3 => ?_
        · rw [e4]
          exact ho3.but sb_upd (ho3.nd hB3')
        · rw [e4, upd_ne n2]
          exact fr a x e n1 n3
      exact key _ rfl
/-- the sum of what the first i of a list tell by f, of those that pass q -/
def upTo {α : Type} (q : α → Bool) (f : α → Int) (l : List α) (i : Nat) : Int := (((l.take i).filter q).map f).sum
theorem upTo_step {α : Type} {q : α → Bool} {f : α → Int} {l : List α} {i : Nat} {z : α} (h : l[i]? = some z) : upTo q f l (i + 1) = upTo q f l i + (if q z = true then f z else 0) := by
  unfold upTo
  have tk : l.take (i + 1) = l.take i ++ [z] := by
    rw [List.take_add_one, h]
    rfl
  rw [tk, List.filter_append, List.filter_cons]
  by_cases e : q z = true
  · simp [e]
  · simp [e]
theorem upTo_all {α : Type} {q : α → Bool} {f : α → Int} {l : List α} : upTo q f l l.length = ((l.filter q).map f).sum := by
  unfold upTo
  rw [List.take_length]
def spCanFill (K : PySem.W.Frag) : Sp := fun vs H Q _ => ∃ (b d : Addr) (B : Bk) (o : Ord), vs = [.ref b, .ref o.ad] ∧ BookAt K H b d B ∧ Priced B.ords ∧ B.ords.length ≤ 1000 ∧ OrdAt K H o ∧ ∀ H', L2.Same H H' → Q (.bl (canFill B.ords o)) H'
theorem scCanFill : FnScope ["book", "order", "there", "one"] ["book", "order"] (defScope s_can_fill) := ⟨rfl, rfl, rfl, by decide +kernel, rfl, by decide +kernel, by decide +kernel⟩
theorem w_can_fill (T : Tx K mg) : Fn P w K mg base CX0 3 "can_fill" ["book", "order"] (spCanFill K) := by
  refine ⟨ok0 T.f_can_fill scCanFill (fun _ _ _ _ _ _ us hl => match us, hl with | [_, _], _ => rfl) (fun vs H Q E h => ?_) (fun cdv A outer s H vs Q E hr h => ?_), T.g_can_fill, ?_⟩
  · obtain ⟨b, d, B, o, rfl, _⟩ := h
    rfl
  · obtain ⟨b, d, B, o, rfl, hB, hpr, hlen, ho, k⟩ := h
    have GR : Mt P w K mg base CX0 2 "Book" "row" ["self", "side"] (spRow K) := w_row T
    have GO : Fn P w K mg base CX0 1 "other_side" ["side"] spOther := w_other T
    have GS : Mt P w K mg base CX0 1 "Order" "suits" ["self", "price"] (spSuits K) := w_suits T
    have hr1 := hr.mono (j := 1) (by decide)
    refine ⟨_, pss_cons (ps_set (i := 2) scCanFill.nd rfl (Or.inl rfl) pe_int)
      (pss_cons (ps_for PassesOwn.never rfl (pi_list (pe_mt (pv 0) GR hr pass0 (pa_cons (pe_fn GO hr1 rfl pass0 (pa_cons (pe_fld (pv 1) rfl) pa_nil)) pa_nil))) (pg_name (i := 3) scCanFill.nd rfl (Or.inl rfl))
        (pss_one (ps_if (PW.pt (pw_and (pt_val (pe_mt (pv 1) GS hr1 pass0 (pa_cons (pe_fld (pv 3) rfl) pa_nil))) (pw_and1 (pt_cmpR op_ne (pe_fld (pv 3) rfl) (pe_fld (pv 1) rfl) (nomark _)))))
          (pss_one (ps_set (i := 2) scCanFill.nd rfl (Or.inl rfl) (pe_op op_add (pv 2) (pe_fld (pv 3) rfl)))) pss_nil)))
      (pss_one (ps_ret (pe_cmpR op_ge (pv 2) (pe_fld (pv 1) rfl) (nomark _))))), ?_⟩
    refine ⟨_, rfl, mB hB rfl ⟨_, rfl, ro_side T ho ⟨o.buy, rfl, b, d, B, !o.buy, rfl, hB.r, hpr, hlen, fun H1 r s1 hn hr1 => ⟨r, rfl, ⟨_, SqL.of hr1⟩, ?_⟩⟩⟩⟩
    refine for_zs (K := K) (zs := row B.ords (!o.buy)) (enc := refO) (fun i σ H2 => L2.Same H1 H2 ∧ ∃ v : Option V, σ = [some (.ref b), some (.ref o.ad), some (.int (upTo (fun x => o.suits x.pr && decide (x.own ≠ o.own)) (·.rest) (row B.ords (!o.buy)) i)), v])
      ⟨L2.Same.refl _, none, rfl⟩ (fun i σ H2 _ h => h.1.seq (SqL.of hr1)) ?_ ?_
    · rintro i z σ H2 hi ⟨s2, v, rfl⟩
      have hz := row_mem.mp (List.mem_of_getElem? hi)
      have hO2 := (ho.same s1).same s2
      have hz2 := ((hB.os z hz.1).same s1).same s2
      have st := upTo_step (q := fun x => o.suits x.pr && decide (x.own ≠ o.own)) (f := (·.rest)) hi
      refine ⟨_, rfl, mO hO2 rfl ⟨_, rfl, ro_price T hz2 ⟨o, z.pr, by rw [hpr z hz.1]; rfl, hO2, _, rfl, ?_⟩⟩⟩
      cases e1 : o.suits z.pr with
      | false =>
        refine iteF (iteF ⟨s2, some (refO z), ?_⟩)
        rw [st, e1]
        simp
      | true =>
        refine iteT ⟨_, rfl, ro_owner T hz2 ⟨_, rfl, ro_owner T hO2 ⟨rfl, _, rfl, ?_⟩⟩⟩
        rw [dec_int]
        cases e2 : (z.own == o.own) with
        | true =>
          refine iteF ⟨s2, some (refO z), ?_⟩
          have e3 : z.own = o.own := by simpa using e2
          rw [st, e1]
          simp [e3]
        | false =>
          refine iteT ⟨_, rfl, _, rfl, ro_rest T hz2 ⟨_, _, rfl, rfl, s2, some (refO z), ?_⟩⟩
          have e3 : ¬ z.own = o.own := by simpa using e2
          rw [st, e1]
          simp [e3]
    · rintro σ H2 ⟨s2, v, rfl⟩
      refine ⟨_, rfl, _, rfl, ro_rest T ((ho.same s1).same s2) ⟨_, _, rfl, rfl, ?_⟩⟩
      rw [upTo_all]
      exact k H2 (s1.trans s2)
  · obtain ⟨fd, F⟩ := T.f_can_fill
    exact F.kp
def evV : Ev → List V
  | .trade n p m => [.str "trade", .int n, .int p, .int m]
  | .out n => [.str "out", .int n]
def EvAt (H : Hp) (e : Ev) (y : V) : Prop := ∃ t, y = .ref t ∧ H t = some (.tup (evV e))
theorem EvAt.kd {d : Addr} {H H' : Hp} {e : Ev} {y : V} (h : EvAt H e y) (k : Kd d H H') (n : ∃ kvs, H d = some (.dK kvs)) : EvAt H' e y := by
  obtain ⟨t, e1, e2⟩ := h
  obtain ⟨kvs, e3⟩ := n
  exact ⟨t, e1, k t _ e2 rfl (ne_of e2 e3 (by intro z; cases z))⟩
theorem BookAt.hd {H : Hp} {b d : Addr} {B : Bk} (h : BookAt K H b d B) : ∃ kvs, H d = some (.dK kvs) := ⟨_, h.dc⟩
/-- nothing of o stands in the book -/
def New (os : List Ord) (o : Ord) : Prop := ∀ x ∈ os, x.ad ≠ o.ad ∧ x.num ≠ o.num
def spMeet (K : PySem.W.Frag) : Sp := fun vs H Q _ => ∃ (b d : Addr) (B : Bk) (o one : Ord), vs = [.ref b, .ref o.ad, .ref one.ad] ∧ BookAt K H b d B ∧ OrdAt K H o ∧ New B.ords o ∧ one ∈ B.ords ∧ one.price = some one.pr ∧ B.ords.length ≤ 1000 ∧
  ∀ H' t, BookAt K H' b d (afterMeet B o one) → OrdAt K H' (afterMeetO o one) → Kd d H H' → H' t = some (.tup (evV (.trade one.num one.pr (cut o one)))) → Q (.ref t) H'
theorem scMeet : FnScope ["book", "order", "one", "many"] ["book", "order", "one"] (defScope s_meet) := ⟨rfl, rfl, rfl, by decide +kernel, rfl, by decide +kernel, by decide +kernel⟩
theorem w_meet (T : Tx K mg) : Fn P w K mg base CX0 3 "meet" ["book", "order", "one"] (spMeet K) := by
  refine ⟨ok0 T.f_meet scMeet (fun _ _ _ _ _ _ us hl => match us, hl with | [_, _, _], _ => rfl) (fun vs H Q E h => ?_) (fun cdv A outer s H vs Q E hr h => ?_), T.g_meet, ?_⟩
  · obtain ⟨b, d, B, o, one, rfl, _⟩ := h
    rfl
  · obtain ⟨b, d, B, o, one, rfl, hB, ho, hnew, h1, hpr, hlen, k⟩ := h
    have GT : Mt P w K mg base CX0 1 "Book" "trade" ["self", "price", "many"] (spTrade K) := w_trade T
    have GP : Mt P w K mg base CX0 2 "Book" "put" ["self", "order"] (spPut K) := w_put T
    have hr1 := hr.mono (j := 1) (by decide)
    refine ⟨_, pss_cons (ps_set (i := 3) scMeet.nd rfl (Or.inl rfl) (pe_callB (call_min2 rfl) (by rfl) T.z_min boot_min (pa_cons (pe_fld (pv 1) rfl) (pa_cons (pe_fld (pv 2) rfl) pa_nil))))
      (pss_cons (ps_fld (pv 1) (pe_op op_sub (pe_fld (pv 1) rfl) (pv 3)) rfl)
      (pss_cons (ps_fld (pv 2) (pe_op op_sub (pe_fld (pv 2) rfl) (pv 3)) rfl)
      (pss_cons (ps_fld (pv 2) (pe_op op_sub (pe_fld (pv 2) rfl) (pv 3)) rfl)
      (pss_cons (ps_expr (pe_mt (pv 0) GT hr1 pass0 (pa_cons (pe_fld (pv 2) rfl) (pa_cons (pv 3) pa_nil))))
      (pss_cons (ps_if (pt_cmpR op_eq (pe_fld (pv 2) rfl) pe_int (nomark _)) (pss_one (ps_expr (pe_dpop1 (pe_fld (pv 0) rfl) (pe_fld (pv 2) rfl) ⟨rfl, rfl, rfl, rfl⟩)))
        (pss_one (ps_if (pt_cmpR op_eq (pe_fld (pv 2) rfl) pe_int (nomark _)) (pss_one (ps_expr (pe_mt (pv 0) GP hr pass0 (pa_cons (pv 2) pa_nil)))) pss_nil)))
      (pss_one (ps_ret (pe_tup (pa_cons pe_str (pa_cons (pe_fld (pv 2) rfl) (pa_cons (pe_fld (pv 2) rfl) (pa_cons (pv 3) pa_nil)))))))))))), ?_⟩
    have h1o := hB.os one h1
    have hne : one.ad ≠ o.ad := (hnew one h1).1
    refine ⟨_, rfl, ro_rest T ho ⟨_, rfl, ro_part T h1o ⟨_, _, rfl, ?_⟩⟩⟩
    refine ⟨_, rfl, ro_rest T ho ⟨_, rfl, _, _, rfl, rfl, _, rfl, wo_rest T ho fun H1 hO1 s1 => ?_⟩⟩
    have hB1 : BookAt K H1 b d B := by
      refine hB.but s1 (Ne.symm (ho.nb hB)) (Ne.symm (ho.nd hB)) fun x hx => (hnew x hx).1
    have h11 := h1o.but s1 hne
    have hm1 : InOrNew B.ords one := .inl ⟨one, h1, rfl, rfl⟩
    refine ⟨_, rfl, ro_rest T h11 ⟨_, rfl, _, _, rfl, rfl, _, rfl, wo_rest T h11 fun H2 h12 s2 => ?_⟩⟩
    have hB2 := hB1.chg h11 hm1 h12 s2 rfl rfl
    refine ⟨_, rfl, ro_part T h12 ⟨_, rfl, _, _, rfl, rfl, _, rfl, wo_part T h12 fun H3 h13 s3 => ?_⟩⟩
    have hB3 := hB2.chg h12 (hm1.upd rfl rfl) h13 s3 rfl rfl
    have hO3 : OrdAt K H3 (afterMeetO o one) := (hO1.but s2 (Ne.symm hne)).but s3 (Ne.symm hne)
    have hB3' : BookAt K H3 b d { B with ords := updO B.ords { one with rest := one.rest - cut o one, part := one.part - cut o one } } := by
      have e := updO_upd (os := B.ords) (o1 := { one with rest := one.rest - cut o one }) (o2 := { one with rest := one.rest - cut o one, part := one.part - cut o one }) rfl
      rw [← e]
      exact hB3
    have h13' : OrdAt K H3 { one with rest := one.rest - cut o one, part := one.part - cut o one } := h13
    have k3 : Kd d H H3 := ((Kd.ord ho s1).trans (Kd.ord h11 s2)).trans (Kd.ord h12 s3)
    have fin : ∀ H5, BookAt K H5 b d (afterMeet B o one) → OrdAt K H5 (afterMeetO o one) → (∃ x, OrdAt K H5 x ∧ x.ad = one.ad ∧ x.num = one.num ∧ x.price = one.price) → Kd d H H5 →
        (tRet (tTup (tCons (tC (.str "trade")) (tCons (tFld K (tVar 2) "number") (tCons (tFld K (tVar 2) "price") (tCons (tVar 3) tNil)))))) { nx := fun _ H' => Q .non H', rt := Q } [some (.ref b), some (.ref o.ad), some (.ref one.ad), some (.int (cut o one))] H5 := by
      rintro H5 hB5 hO5 ⟨x, hx, ea, en, ep⟩ k5
      refine ⟨_, rfl, ?_⟩
      rw [← ea]
      refine ro_number T hx ⟨_, rfl, ?_⟩
      refine ro_price T hx ⟨_, rfl, by show 4 ≤ sizeLine; decide, fun t ht => ?_⟩
      have e : [V.str "trade", .int x.num, optV x.price, .int (cut o one)] = evV (.trade one.num one.pr (cut o one)) := by
        rw [en, ep, hpr]
        rfl
      rw [e]
      have sm := same_new (o := .tup (evV (.trade one.num one.pr (cut o one)))) ht
      exact k _ t (hB5.same sm) (hO5.same sm) (k5.trans (Kd.of sm)) upd_same
    refine ⟨_, rfl, mB hB3' rfl ⟨_, rfl, ro_price T h13' ⟨_, rfl, b, d, _, one.pr, cut o one, ?_, hB3', fun H4 hB4 s4 => ?_⟩⟩⟩
    · show [V.ref b, optV one.price, V.int (cut o one)] = _
      rw [hpr]
      rfl
    have h14 := h13'.but s4 (h13'.nb hB3')
    have hO4 := hO3.but s4 (OrdAt.nb (o := afterMeetO o one) hO3 hB3')
    have k4 : Kd d H H4 := k3.trans (let ⟨_, e⟩ := hB3'.bk; Kd.ins e s4)
    have h1m : ∃ x ∈ updO B.ords { one with rest := one.rest - cut o one, part := one.part - cut o one }, x.num = one.num ∧ x.ad = one.ad := ⟨_, mem_upd ⟨one, h1, rfl⟩, rfl, rfl⟩
    refine ⟨_, rfl, ro_rest T h14 ⟨rfl, _, rfl, ?_⟩⟩
    rw [dec_int]
    cases e1 : (one.rest - cut o one == 0) with
    | true =>
      have e1' : one.rest - cut o one = 0 := by simpa using e1
      refine iteT ⟨_, rfl, rb_orders T hB4 ⟨d, rfl, .inl ⟨_, .inl hB4.dc⟩, _, rfl, ro_number T h14 ⟨_, Sum.inl one.num, .ref one.ad, hB4.dc, rfl, val_entry (o := { one with rest := one.rest - cut o one, part := one.part - cut o one }) hB4.ndn (mem_upd ⟨one, h1, rfl⟩), ?_⟩⟩⟩
      have hd5 := hB4.dropped one.num
      rw [drop_entry]
      have em : afterMeet B o one = { ({ B with last := some one.pr, traded := B.traded + cut o one } : Bk) with ords := dropO B.ords one.num } := by
        unfold afterMeet
        exact if_pos e1'
      have ed : dropO (updO B.ords { one with rest := one.rest - cut o one, part := one.part - cut o one }) one.num = dropO B.ords one.num := dropO_upd rfl
      refine fin _ ?_ (hO4.but sb_upd (OrdAt.nd (o := afterMeetO o one) hO4 hB4)) ⟨_, h14.but sb_upd (h14.nd hB4), rfl, rfl, rfl⟩ (k4.trans (Kd.dct sb_upd))
      rw [em, ← ed]
      exact hd5
    | false =>
      have e1' : ¬ one.rest - cut o one = 0 := by simpa using e1
      refine iteF ⟨_, rfl, ro_part T h14 ⟨rfl, _, rfl, ?_⟩⟩
      rw [dec_int]
      cases e2 : (one.part - cut o one == 0) with
      | false =>
        have e2' : ¬ one.part - cut o one = 0 := by simpa using e2
        have em : afterMeet B o one = { ({ B with last := some one.pr, traded := B.traded + cut o one } : Bk) with ords := updO B.ords { one with rest := one.rest - cut o one, part := one.part - cut o one } } := by
          unfold afterMeet
          exact (if_neg e1').trans (if_neg e2')
        refine iteF (fin H4 ?_ hO4 ⟨_, h14, rfl, rfl, rfl⟩ k4)
        rw [em]
        exact hB4
      | true =>
        have e2' : one.part - cut o one = 0 := by simpa using e2
        refine iteT ⟨_, rfl, mB hB4 rfl ⟨_, rfl, b, d, _, { one with rest := one.rest - cut o one, part := one.part - cut o one }, rfl, hB4, h14, .inl ⟨_, mem_upd ⟨one, h1, rfl⟩, rfl, rfl⟩, by rw [updO_len]; exact hlen, fun H5 hB5 hx fr => ?_⟩⟩
        have em : afterMeet B o one = ({ B with last := some one.pr, traded := B.traded + cut o one } : Bk).put { one with rest := one.rest - cut o one, part := one.part - cut o one } := by
          unfold afterMeet
          exact (if_neg e1').trans (if_pos e2')
        have ep := put_upd { B with last := some one.pr, traded := B.traded + cut o one } (o1 := { one with rest := one.rest - cut o one, part := one.part - cut o one }) (o := { one with rest := one.rest - cut o one, part := one.part - cut o one }) rfl
        obtain ⟨x, xa, xn, xr, xo⟩ := hx
        obtain ⟨dy, e5⟩ := hO4
        have hne5 : o.ad ≠ b := OrdAt.nb (o := afterMeetO o one) ⟨dy, e5⟩ hB4
        have hnd5 : o.ad ≠ d := OrdAt.nd (o := afterMeetO o one) ⟨dy, e5⟩ hB4
        refine fin H5 (by rw [em, ← ep]; exact hB5) ⟨dy, fr _ _ e5 hne5 hnd5 (Ne.symm hne)⟩ ⟨x, xo, xa, xn, ?_⟩ (k4.trans fun a y h i n => fr a y h ?_ n ?_)
        · exact xr
        · intro z
          obtain ⟨dx, e⟩ := hB4.bk
          rw [z, e] at h
          cases h
          cases i
        · intro z
          obtain ⟨dx, e⟩ := h14
          rw [z] at h
          have e : H4 one.ad = some (.ins (CO K) dx (ordF { one with rest := one.rest - cut o one, part := one.part - cut o one })) := e
          rw [e] at h
          cases h
          cases i
  · obtain ⟨fd, F⟩ := T.f_meet
    exact F.kp
end
end FB

set_option maxRecDepth 100000
set_option maxHeartbeats 4000000
/-! The walks of matched, place, cancel, change. -/
namespace FB
open PySem PySem.Spec PyProof.Rows L2
/-- tuples stay -/
def TupKeep (H H' : Hp) : Prop := ∀ t xs, H t = some (.tup xs) → H' t = some (.tup xs)
theorem TupKeep.trans {H H1 H2 : Hp} (a : TupKeep H H1) (b : TupKeep H1 H2) : TupKeep H H2 := fun t xs h => b t xs (a t xs h)
theorem TupKeep.kd {d : Addr} {H H' : Hp} (k : Kd d H H') (n : ∃ kvs, H d = some (.dK kvs)) : TupKeep H H' := fun t xs h => by
  obtain ⟨kvs, e⟩ := n
  exact k t _ h rfl (ne_of h e (by intro z; cases z))
theorem TupKeep.of {H H' : Hp} (s : L2.Same H H') : TupKeep H H' := fun t xs h => s t _ h
theorem TupKeep.lst {H : Hp} {r : Addr} {xs ys : List V} (h : H r = some (.lst xs)) : TupKeep H (upd H r (.lst ys)) := fun t us e => by
  rw [upd_ne (ne_of e h (by intro z; cases z))]
  exact e
theorem EvAt.keep {H H' : Hp} {e : Ev} {y : V} (h : EvAt H e y) (k : TupKeep H H') : EvAt H' e y := let ⟨t, e1, e2⟩ := h; ⟨t, e1, k _ _ e2⟩
theorem evs_keep {H H' : Hp} {es : List Ev} {ys : List V} (h : Paired (EvAt H) es ys) (k : TupKeep H H') : Paired (EvAt H') es ys := paired_map (fun _ _ r => r.keep k) h
theorem Kd.lst' {d r : Addr} {H H' : Hp} {xs ys : List V} (k : Kd d H H') (hn : H r = none) (e : H' r = some (.lst xs)) : Kd d H (upd H' r (.lst ys)) := fun a x h i n => by
  rw [upd_ne (ne_of_none h hn)]
  exact k a x h i n
theorem New.within {os os' : List Ord} {o o' : Ord} (h : New os o) (w : Within os' os) (l : Like o' o) : New os' o' := fun x hx => by
  obtain ⟨y, hy, k, _⟩ := w x hx
  rw [k.ad, k.num, l.ad, l.num]
  exact h y hy
theorem BookAt.lst {K : PySem.W.Frag} {H : Hp} {b d r : Addr} {B : Bk} {xs ys : List V} (h : BookAt K H b d B) (e : H r = some (.lst xs)) : BookAt K (upd H r (.lst ys)) b d B :=
  h.but sb_upd (let ⟨_, q⟩ := h.bk; ne_of q e (by intro z; cases z)) (ne_of h.dc e (by intro z; cases z)) fun o ho => let ⟨_, q⟩ := h.os o ho; ne_of q e (by intro z; cases z)
theorem OrdAt.lst {K : PySem.W.Frag} {H : Hp} {r : Addr} {o : Ord} {xs ys : List V} (h : OrdAt K H o) (e : H r = some (.lst xs)) : OrdAt K (upd H r (.lst ys)) o := let ⟨dx, q⟩ := h; ⟨dx, by rw [upd_ne (ne_of q e (by intro z; cases z))]; exact q⟩
theorem priced_of {B : Bk} (h : BkOk B) : Priced B.ords := fun o ho => (h.os o ho).price
section
variable {P : Program} {w : World} {K : PySem.W.Frag} {mg : Str → Option Value} {base : Heap}
def spMatched (K : PySem.W.Frag) : Sp := fun vs H Q _ => ∃ (b d : Addr) (B : Bk) (o : Ord), vs = [.ref b, .ref o.ad] ∧ BookAt K H b d B ∧ OrdAt K H o ∧ BkOk B ∧ New B.ords o ∧ B.ords.length ≤ 1000 ∧ o.rest ≤ 10000 ∧
  ∀ H' r ys, BookAt K H' b d (matchAll (B, o)).2.1 → OrdAt K H' (matchAll (B, o)).2.2 → Kd d H H' → H' r = some (.lst ys) → Paired (EvAt H') (matchAll (B, o)).1 ys → Q (.ref r) H'
/-- between two turns -/
structure Mid (K : PySem.W.Frag) (H0 : Hp) (b d r : Addr) (B : Bk) (o : Ord) (H : Hp) (Bc : Bk) (oc : Ord) (evs : List Ev) (ys : List V) : Prop where
  hB : BookAt K H b d Bc
  hO : OrdAt K H oc
  ok : BkOk Bc
  new : New Bc.ords oc
  len : Bc.ords.length ≤ 1000
  like : Like oc o
  kd : Kd d H0 H
  lst : H r = some (.lst ys)
  pev : Paired (EvAt H) evs ys
  all : matchAll (B, o) = (evs ++ (matchAll (Bc, oc)).1, (matchAll (Bc, oc)).2)
  mu : evs.length + mu1 (Bc, oc) ≤ 11000
theorem lenOk {H0 : Hp} {b d r : Addr} {B : Bk} {o : Ord} {H : Hp} {Bc : Bk} {oc : Ord} {evs : List Ev} {ys : List V} (M : Mid K H0 b d r B o H Bc oc evs ys) : ys.length < sizeLine := by
  have h1 := paired_len M.pev
  have h2 := M.mu
  rw [sizeLine_eq]
  omega
theorem scMatched : FnScope ["book", "order", "told", "others"] ["book", "order"] (defScope s_matched) := ⟨rfl, rfl, rfl, by decide +kernel, rfl, by decide +kernel, by decide +kernel⟩
theorem w_matched (T : Tx K mg) : Fn P w K mg base CX0 4 "matched" ["book", "order"] (spMatched K) := by
  refine ⟨ok0 T.f_matched scMatched (fun _ _ _ _ _ _ us hl => match us, hl with | [_, _], _ => rfl) (fun vs H Q E h => ?_) (fun cdv A outer s H vs Q E hr h => ?_), T.g_matched, ?_⟩
  · obtain ⟨b, d, B, o, rfl, _⟩ := h
    rfl
  · obtain ⟨b, d, B, o, rfl, hB, ho, hok, hnew, hlen, hrest, k⟩ := h
    have GR : Mt P w K mg base CX0 2 "Book" "row" ["self", "side"] (spRow K) := w_row T
    have GO : Fn P w K mg base CX0 1 "other_side" ["side"] spOther := w_other T
    have GS : Mt P w K mg base CX0 1 "Order" "suits" ["self", "price"] (spSuits K) := w_suits T
    have GM : Fn P w K mg base CX0 3 "meet" ["book", "order", "one"] (spMeet K) := w_meet T
    have hr1 := hr.mono (j := 1) (by decide)
    have hr2 := hr.mono (j := 2) (by decide)
    refine ⟨_, pss_cons (ps_set (i := 2) scMatched.nd rfl (Or.inl rfl) (pe_lst pa_nil))
      (pss_cons (ps_while PassesOwn.never (pt_cmpR op_gt (pe_fld (pv 1) rfl) pe_int (nomark _))
        (pss_cons (ps_set (i := 3) scMatched.nd rfl (Or.inl rfl) (pe_mt (pv 0) GR hr2 pass0 (pa_cons (pe_fn GO hr1 rfl pass0 (pa_cons (pe_fld (pv 1) rfl) pa_nil)) pa_nil)))
        (pss_cons (ps_if (PW.pt (pw_or (pt_not (pt_truth (pv 3) (by intro _; rfl))) (pw_or1 (pt_not (pt_val (pe_mt (pv 1) GS hr1 pass0 (pa_cons (pe_fld (pe_ix ix_list (pv 3) pe_int (fun _ _ => rfl)) rfl) pa_nil))))))) (pss_one (ps_ret (pv 2))) pss_nil)
        (pss_one (ps_if (pt_cmpR op_eq (pe_fld (pe_ix ix_list (pv 3) pe_int (fun _ _ => rfl)) rfl) (pe_fld (pv 1) rfl) (nomark _))
          (pss_cons (ps_expr (pe_dpop1 (pe_fld (pv 0) rfl) (pe_fld (pe_ix ix_list (pv 3) pe_int (fun _ _ => rfl)) rfl) ⟨rfl, rfl, rfl, rfl⟩))
          (pss_one (ps_expr (pe_bm PySem.F.plainAttrs_list PySem.F.slot_list_append PySem.F.type_list_append mt_append (pv 2) (pa_cons (pe_tup (pa_cons pe_str (pa_cons (pe_fld (pe_ix ix_list (pv 3) pe_int (fun _ _ => rfl)) rfl) pa_nil))) pa_nil)))))
          (pss_one (ps_expr (pe_bm PySem.F.plainAttrs_list PySem.F.slot_list_append PySem.F.type_list_append mt_append (pv 2) (pa_cons (pe_fn GM hr rfl pass0 (pa_cons (pv 0) (pa_cons (pv 1) (pa_cons (pe_ix ix_list (pv 3) pe_int (fun _ _ => rfl)) pa_nil)))) pa_nil)))))))))
      (pss_one (ps_ret (pv 2)))), ?_⟩
    refine ⟨by show 0 ≤ sizeLine; decide, fun r hrn => ?_⟩
    have sm0 := same_new (o := .lst []) hrn
    have fin : ∀ H1 Bc oc evs ys, Mid K H b d r B o H1 Bc oc evs ys → step1 (Bc, oc) = none → Q (.ref r) H1 := fun H1 Bc oc evs ys M e => by
      have e2 := M.all
      rw [match_none e, List.append_nil] at e2
      exact k H1 r ys (by rw [e2]; exact M.hB) (by rw [e2]; exact M.hO) M.kd M.lst (by rw [e2]; exact M.pev)
    refine ⟨fun m σ H1 => ∃ Bc oc evs ys v, σ = [some (.ref b), some (.ref o.ad), some (.ref r), v] ∧ Mid K H b d r B o H1 Bc oc evs ys ∧ m = mu1 (Bc, oc),
      ⟨_, B, o, [], [], none, rfl, ⟨hB.same sm0, ho.same sm0, hok, hnew, hlen, Like.refl _, Kd.of sm0, upd_same, .nil, rfl, by
        show 0 + (o.rest.toNat + B.ords.length) ≤ 11000
        omega⟩, rfl⟩, ?_⟩
    rintro m σ H1 ⟨Bc, oc, evs, ys, v, rfl, M, rfl⟩
    have ea := M.like.ad
    refine ⟨_, rfl, ?_⟩
    rw [← ea]
    refine ro_rest T M.hO ⟨_, _, rfl, rfl, _, rfl, ?_⟩
    by_cases h0 : (0 : Int) < oc.rest
    · rw [decide_eq_true h0]
      refine iteT ⟨_, fun _ _ h => h, ?_⟩
      refine ⟨_, rfl, mB M.hB rfl ⟨_, rfl, ro_side T M.hO ⟨oc.buy, rfl, b, d, Bc, !oc.buy, rfl, M.hB.r, priced_of M.ok, M.len, fun H2 r2 s2 n2 e2 => ?_⟩⟩⟩
      have hB2 := M.hB.same s2
      have hO2 := M.hO.same s2
      have hr2' := s2 _ _ M.lst
      cases er : row Bc.ords (!oc.buy) with
      | nil =>
        rw [er] at e2
        refine ⟨_, rfl, false, .inl ⟨[], SqL.of e2, rfl⟩, iteT (iteT ⟨_, rfl, ?_⟩)⟩
        exact fin H2 Bc oc evs ys ⟨hB2, hO2, M.ok, M.new, M.len, M.like, M.kd.trans (Kd.of s2), hr2', evs_keep M.pev (.of s2), M.all, M.mu⟩ (step_stop1 er)
      | cons one rest =>
        rw [er] at e2
        have h1 := (row_mem (os := Bc.ords) (side := !oc.buy) (o := one)).mp (by rw [er]; exact List.mem_cons_self)
        have h1o := hB2.os one h1.1
        have hpr := (M.ok.os one h1.1).price
        have hop : optV one.price = .int one.pr := by rw [hpr]; rfl
        refine ⟨_, rfl, true, .inl ⟨_, SqL.of e2, rfl⟩, iteF ⟨_, rfl, mO hO2 rfl ⟨_, rfl, r2, _, _, _, rfl, rfl, SqL.of e2, atI_nat (j := 0) rfl, ro_price T h1o ⟨oc, one.pr, by rw [hop]; rfl, hO2, _, rfl, ?_⟩⟩⟩⟩
        cases es : oc.suits one.pr with
        | false =>
          refine iteT ⟨_, rfl, ?_⟩
          exact fin H2 Bc oc evs ys ⟨hB2, hO2, M.ok, M.new, M.len, M.like, M.kd.trans (Kd.of s2), hr2', evs_keep M.pev (.of s2), M.all, M.mu⟩ (step_stop2 er es)
        | true =>
          refine iteF ⟨_, rfl, r2, _, _, _, rfl, rfl, SqL.of e2, atI_nat (j := 0) rfl, ro_owner T h1o ⟨_, rfl, ro_owner T hO2 ⟨rfl, _, rfl, ?_⟩⟩⟩
          rw [dec_int]
          cases eo : (one.own == oc.own) with
          | true =>
            have eo' : one.own = oc.own := by simpa using eo
            have st := step_out (s := (Bc, oc)) h0 er es eo'
            have sk := step_ok (s := (Bc, oc)) M.ok st
            refine iteT ⟨_, rfl, rb_orders T hB2 ⟨d, rfl, .inl ⟨_, .inl hB2.dc⟩, _, rfl, r2, _, _, _, rfl, rfl, SqL.of e2, atI_nat (j := 0) rfl, ro_number T h1o ⟨_, Sum.inl one.num, .ref one.ad, hB2.dc, rfl, val_entry hB2.ndn h1.1, ?_⟩⟩⟩
            rw [drop_entry]
            have hB3 := hB2.dropped one.num
            have k3 : Kd d H2 (upd H2 d (.dK ((dropO Bc.ords one.num).map entry))) := Kd.dct sb_upd
            have n1 : r ≠ d := ne_of hr2' hB2.dc (by intro z; cases z)
            have n2 : r2 ≠ d := ne_of e2 hB2.dc (by intro z; cases z)
            have h1o3 := h1o.but (p := d) (H' := upd H2 d (.dK ((dropO Bc.ords one.num).map entry))) sb_upd (h1o.nd hB2)
            have hO3 := hO2.but (p := d) (H' := upd H2 d (.dK ((dropO Bc.ords one.num).map entry))) sb_upd (hO2.nd hB2)
            have hr3 : (upd H2 d (.dK ((dropO Bc.ords one.num).map entry))) r = some (.lst ys) := by rw [upd_ne n1]; exact hr2'
            have e3 : (upd H2 d (.dK ((dropO Bc.ords one.num).map entry))) r2 = some (.lst ((one :: rest).map refO)) := by rw [upd_ne n2]; exact e2
            refine ⟨_, rfl, .inl ⟨rfl, _, SqL.of hr3⟩, _, rfl, r2, _, _, _, rfl, rfl, SqL.of e3, atI_nat (j := 0) rfl, ro_number T h1o3 ⟨by show 2 ≤ sizeLine; decide, fun t ht => ⟨r, ys, .ref t, rfl, rfl, ?_, ?_, ?_⟩⟩⟩
            · rw [upd_ne (ne_of_none hr3 ht)]
              exact hr3
            · exact lenOk M
            · have et : (upd (upd H2 d (.dK ((dropO Bc.ords one.num).map entry))) t (.tup (evV (.out one.num)))) t = some (.tup (evV (.out one.num))) := upd_same
              have hr4 : (upd (upd H2 d (.dK ((dropO Bc.ords one.num).map entry))) t (.tup (evV (.out one.num)))) r = some (.lst ys) := by
                rw [upd_ne (ne_of_none hr3 ht)]
                exact hr3
              have sm4 := same_new (o := .tup (evV (.out one.num))) ht
              have k4 : Kd d H (upd (upd H2 d (.dK ((dropO Bc.ords one.num).map entry))) t (.tup (evV (.out one.num)))) := ((M.kd.trans (Kd.of s2)).trans k3).trans (Kd.of sm4)
              have tk : TupKeep H1 (upd (upd H2 d (.dK ((dropO Bc.ords one.num).map entry))) t (.tup (evV (.out one.num)))) := ((TupKeep.of s2).trans (TupKeep.kd k3 hB2.hd)).trans (.of sm4)
              exact ⟨_, sk.mu, _, oc, evs ++ [.out one.num], ys ++ [.ref t], some (.ref r2), rfl,
                ⟨(hB3.same sm4).lst hr4, (hO3.same sm4).lst hr4, sk.ok, M.new.within sk.within sk.like, Nat.le_trans sk.len M.len, M.like, Kd.lst' k4 hrn hr4, upd_same,
                  paired_snoc (evs_keep M.pev (tk.trans (.lst hr4))) ⟨t, rfl, TupKeep.lst hr4 _ _ et⟩, by rw [M.all, match_step M.ok st, List.append_assoc]; rfl, by
                    have q : mu1 ({ Bc with ords := dropO Bc.ords one.num }, oc) < mu1 (Bc, oc) := sk.mu
                    have := M.mu
                    rw [List.length_append]
                    show evs.length + 1 + _ ≤ _
                    omega⟩, rfl⟩
          | false =>
            have eo' : ¬ one.own = oc.own := by simpa using eo
            have st := step_trade (s := (Bc, oc)) h0 er es eo'
            have sk := step_ok (s := (Bc, oc)) M.ok st
            have n1 : r ≠ d := ne_of hr2' hB2.dc (by intro z; cases z)
            refine iteF ⟨_, rfl, .inl ⟨rfl, _, SqL.of hr2'⟩, _, rfl, _, rfl, _, rfl, r2, _, _, _, rfl, rfl, SqL.of e2, atI_nat (j := 0) rfl, b, d, Bc, oc, one, rfl, hB2, hO2, M.new, h1.1, hpr, M.len, fun H3 t hB3 hO3 k3 et => ?_⟩
            have hr4 : H3 r = some (.lst ys) := k3 r _ hr2' rfl n1
            have k4 : Kd d H H3 := (M.kd.trans (Kd.of s2)).trans k3
            have tk : TupKeep H1 H3 := (TupKeep.of s2).trans (TupKeep.kd k3 hB2.hd)
            refine ⟨r, ys, .ref t, rfl, rfl, hr4, lenOk M, ?_⟩
            exact ⟨_, sk.mu, _, _, evs ++ [.trade one.num one.pr (cut oc one)], ys ++ [.ref t], some (.ref r2), rfl,
              ⟨hB3.lst hr4, OrdAt.lst (o := afterMeetO oc one) hO3 hr4, sk.ok, M.new.within sk.within sk.like, Nat.le_trans sk.len M.len, sk.like.trans M.like, Kd.lst' k4 hrn hr4, upd_same,
                paired_snoc (evs_keep M.pev (tk.trans (.lst hr4))) ⟨t, rfl, TupKeep.lst hr4 _ _ et⟩, by rw [M.all, match_step M.ok st, List.append_assoc]; rfl, by
                  have q : mu1 (afterMeet Bc oc one, afterMeetO oc one) < mu1 (Bc, oc) := sk.mu
                  have := M.mu
                  rw [List.length_append]
                  show evs.length + 1 + _ ≤ _
                  omega⟩, rfl⟩
    · rw [decide_eq_false h0]
      exact iteF ⟨_, rfl, fin H1 Bc oc evs ys M (step_stop0 h0)⟩
  · obtain ⟨fd, F⟩ := T.f_matched
    exact F.kp
def wayV (w : Way) : V := .str w.str
def spPlace (K : PySem.W.Frag) : Sp := fun vs H Q E => ∃ (b d : Addr) (B : Bk) (owner : Int) (side : Str) (price : Option Int) (many : Int) (shows : Option Int) (way : Str),
  vs = [.ref b, .int owner, .str side, optV price, .int many, optV shows, .str way] ∧ BookAt K H b d B ∧ BkOk B ∧ B.ords.length ≤ 900 ∧
  (goodO side price many shows way = false → ∀ H', L2.Same H H' → E (.ref (He.ga K "BadOrder")) none H') ∧
  (goodO side price many shows way = true → B.calling = true → way ≠ ("rest" : Str) → ∀ H', L2.Same H H' → E (.ref (He.ga K "NotNow")) none H') ∧
  (∀ buy wy, side = sideStr buy → way = wy.str → Parts price many shows wy → (B.calling = true → wy = .rest) → ∀ H' t r ys ad, H ad = none →
    BookAt K H' b d (placeB B (newOrd B ad owner buy price many shows) wy).2 → Kd d H H' → H' t = some (.tup [.int B.many, .ref r]) → H' r = some (.lst ys) → Paired (EvAt H') (placeB B (newOrd B ad owner buy price many shows) wy).1 ys → Q (.ref t) H')
theorem scPlace : FnScope ["book", "owner", "side", "price", "many", "shows", "way", "order", "told"] ["book", "owner", "side", "price", "many", "shows", "way"] (defScope s_place) := ⟨rfl, rfl, rfl, by decide +kernel, rfl, by decide +kernel, by decide +kernel⟩
theorem ne_str (a b : Str) : (!decide (V.str a = V.str b)) = !decide (a = b) := by rw [dec_str]
theorem w_place (T : Tx K mg) : Fn P w K mg base (L2.CX P w) 5 "place" ["book", "owner", "side", "price", "many", "shows", "way"] (spPlace K) := by
  refine ⟨okX T.f_place scPlace (fun _ _ _ _ _ _ us hl => match us, hl with | [_, _, _, _, _, _, _], _ => rfl) (fun vs H Q E h => ?_) (fun cdv A outer s H vs Q E hr h => ?_), T.g_place, ?_⟩
  · obtain ⟨b, d, B, owner, side, price, many, shows, way, rfl, _⟩ := h
    rfl
  · obtain ⟨b, d, B, owner, side, price, many, shows, way, rfl, hB, hok, hlen, kbad, know, kok⟩ := h
    have GL : Fn P w K mg base (L2.CX P w) 2 "look_order" ["side", "price", "many", "shows", "way"] (spLook K) := w_look T
    have GC : Fn P w K mg base CX0 3 "can_fill" ["book", "order"] (spCanFill K) := w_can_fill T
    have GM : Fn P w K mg base CX0 4 "matched" ["book", "order"] (spMatched K) := w_matched T
    have GP : Mt P w K mg base CX0 2 "Book" "put" ["self", "order"] (spPut K) := w_put T
    have GN : Cn P w K mg base CX0 1 "Order" ["self", "number", "owner", "side", "price", "left", "shows"] (spOInit K) := w_O_init T
    obtain ⟨xP, kP, bP, tP⟩ := T.e_NotNow
    have hr2 := hr.mono (j := 2) (by decide)
    have hr3 := hr.mono (j := 3) (by decide)
    refine ⟨_, pss_cons (ps_expr (pe_fn GL hr2 rfl (passes_call (takes_of rfl rfl rfl rfl) (fun _ _ _ _ h => h)) (pa_cons (pv 2) (pa_cons (pv 3) (pa_cons (pv 4) (pa_cons (pv 5) (pa_cons (pv 6) pa_nil)))))))
      (pss_cons (ps_if (PW.pt (pw_and (pt_val (pe_fld (pv 0) rfl)) (pw_and1 (pt_cmpR op_ne (pv 6) (pe_gs T.k_REST (by rfl)) (nomark _)))))
        (pss_one (ps_raise rfl (takes_of rfl rfl rfl rfl) (pmk_own PySem.F.excBase_ValueError xP T.g_NotNow kP (raises_own bP tP) rfl))) pss_nil)
      (pss_cons (ps_set (i := 7) scPlace.nd rfl (Or.inl rfl) (pe_cn GN hr2 rfl pass0 (pa_cons (pe_fld (pv 0) rfl) (pa_cons (pv 1) (pa_cons (pv 2) (pa_cons (pv 3) (pa_cons (pv 4) (pa_cons (pv 5) pa_nil))))))))
      (pss_cons (ps_fld (pv 0) (pe_op op_add (pe_fld (pv 0) rfl) pe_int) rfl)
      (pss_cons (ps_set (i := 8) scPlace.nd rfl (Or.inl rfl) (pe_lst pa_nil))
      (pss_cons (ps_if (PW.pt (pw_and (pt_not (pt_val (pe_fld (pv 0) rfl))) (pw_and1 (PW.pt (pw_or (pt_cmpR op_ne (pv 6) pe_str (nomark _)) (pw_or1 (pt_val (pe_fn GC hr3 rfl pass0 (pa_cons (pv 0) (pa_cons (pv 7) pa_nil))))))))))
        (pss_one (ps_set (i := 8) scPlace.nd rfl (Or.inl rfl) (pe_fn GM hr rfl pass0 (pa_cons (pv 0) (pa_cons (pv 7) pa_nil))))) pss_nil)
      (pss_cons (ps_if (PW.pt (pw_and (pt_cmpR op_eq (pv 6) (pe_gs T.k_REST (by rfl)) (nomark _)) (pw_and1 (pt_cmpR op_gt (pe_fld (pv 7) rfl) pe_int (nomark _)))))
        (pss_one (ps_expr (pe_mt (pv 0) GP hr2 pass0 (pa_cons (pv 7) pa_nil)))) pss_nil)
      (pss_one (ps_ret (pe_tup (pa_cons (pe_fld (pv 7) rfl) (pa_cons (pv 8) pa_nil))))))))))), ?_⟩
    refine ⟨_, rfl, _, rfl, _, rfl, _, rfl, _, rfl, side, price, many, shows, way, rfl, fun hg H1 s1 => ?_, fun hg H1 s1 => kbad hg H1 s1⟩
    have hgs : goodSide side = true ∧ goodWay way = true := by
      have e := hg
      rw [goodO_eq] at e
      simp only [Bool.and_eq_true] at e
      exact ⟨e.1.1.1.1, e.1.1.1.2⟩
    obtain ⟨buy, rfl⟩ := side_of hgs.1
    obtain ⟨wy, rfl⟩ := way_of hgs.2
    have g := goodO_parts.mp hg
    have hB1 := hB.same s1
    refine ⟨_, rfl, rb_calling T hB1 ⟨_, rfl, ?_⟩⟩
    have tail : (B.calling = true → wy = .rest) → (tSeq (tAsg (tMake (CO K) (spOInit K) [] E0 (tCons (tFld K (tVar 0) "many") (tCons (tVar 1) (tCons (tVar 2) (tCons (tVar 3) (tCons (tVar 4) (tCons (tVar 5) tNil))))))) (gName 7))
        (tSeq (sFld K (tVar 0) (tOp (rI0 fun i j => .int (i + j)) (tFld K (tVar 0) "many") (tC (.int 1))) "many")
        (tSeq (tAsg (tLst tNil) (gName 8))
        (tSeq (tIfS (tAnd (tNot (tB (tFld K (tVar 0) "calling"))) (tOr (tTest (tOp rNe (tVar 6) (tC (.str "whole")))) (tB (tCall (spCanFill K) [] E0 (tCons (tVar 0) (tCons (tVar 7) tNil)))))) (tAsg (tCall (spMatched K) [] E0 (tCons (tVar 0) (tCons (tVar 7) tNil))) (gName 8)) tNext)
        (tSeq (tIfS (tAnd (tTest (tOp rEq (tVar 6) (tC (.str "rest")))) (tTest (tOp (rI0 fun i j => .bl (decide (j < i))) (tFld K (tVar 7) "rest") (tC (.int 0))))) (tDrop (tMeth (CB K) "put" (spPut K) [] E0 (tVar 0) (tCons (tVar 7) tNil))) tNext)
        (tRet (tTup (tCons (tFld K (tVar 7) "number") (tCons (tVar 8) tNil))))))))) { nx := fun _ H' => Q .non H', rt := Q }
        [some (.ref b), some (.int owner), some (.str (sideStr buy)), some (optV price), some (.int many), some (optV shows), some (.str wy.str), none, none] H1 := by
      intro hcall
      refine ⟨_, rfl, rb_many T hB1 ⟨_, rfl, _, rfl, _, rfl, _, rfl, _, rfl, fun x dx nx ndx nex => ⟨x, dx, B.many, owner, buy, price, many, shows, rfl, upd_same, fun H2 hO2 sb2 => ⟨rfl, ?_⟩⟩⟩⟩
      have sA : L2.Same H1 H2 := L2.Same.made nx ndx (fun b' o' e n => sb2 b' o' n e)
      have hB2 := hB1.same sA
      have hO2 : OrdAt K H2 (newOrd B x owner buy price many shows) := hO2
      have hok1 := many_ok hok
      have hnew : New B.ords (newOrd B x owner buy price many shows) := fun y hy => by
        refine ⟨fun z => ?_, fun z => ?_⟩
        · obtain ⟨dy, e⟩ := hB1.os y hy
          have z : y.ad = x := z
          rw [z, nx] at e
          cases e
        · have := (hok.os y hy).num
          have z : y.num = B.many := z
          omega
      have rest : ∀ (H6 : Hp) (r : Addr) (ys : List V) (evs : List Ev) (Bm : Bk) (om : Ord), BookAt K H6 b d Bm → OrdAt K H6 om → Kd d H1 H6 → H6 r = some (.lst ys) → Paired (EvAt H6) evs ys → New Bm.ords om → Bm.ords.length ≤ 1000 →
          Like om (newOrd B x owner buy price many shows) → placeB B (newOrd B x owner buy price many shows) wy = (evs, if wy = .rest ∧ 0 < om.rest then Bm.put om else Bm) →
          (tSeq (tIfS (tAnd (tTest (tOp rEq (tVar 6) (tC (.str "rest")))) (tTest (tOp (rI0 fun i j => .bl (decide (j < i))) (tFld K (tVar 7) "rest") (tC (.int 0))))) (tDrop (tMeth (CB K) "put" (spPut K) [] E0 (tVar 0) (tCons (tVar 7) tNil))) tNext)
          (tRet (tTup (tCons (tFld K (tVar 7) "number") (tCons (tVar 8) tNil))))) { nx := fun _ H' => Q .non H', rt := Q }
          [some (.ref b), some (.int owner), some (.str (sideStr buy)), some (optV price), some (.int many), some (optV shows), some (.str wy.str), some (.ref x), some (.ref r)] H6 := by
        intro H6 r ys evs Bm om hB6 hO6 k6 er pe hn6 hl6 lk eq
        have ea : om.ad = x := lk.ad
        have fin : ∀ H7 Bf, BookAt K H7 b d Bf → (∃ y, y.ad = x ∧ y.num = B.many ∧ OrdAt K H7 y) → Kd d H6 H7 → placeB B (newOrd B x owner buy price many shows) wy = (evs, Bf) →
            (tRet (tTup (tCons (tFld K (tVar 7) "number") (tCons (tVar 8) tNil)))) { nx := fun _ H' => Q .non H', rt := Q }
            [some (.ref b), some (.int owner), some (.str (sideStr buy)), some (optV price), some (.int many), some (optV shows), some (.str wy.str), some (.ref x), some (.ref r)] H7 := by
          rintro H7 Bf hB7 ⟨y, ya, yn, hy⟩ k7 eq7
          refine ⟨_, rfl, ?_⟩
          rw [← ya]
          refine ro_number T hy ⟨_, rfl, by show 2 ≤ sizeLine; decide, fun t ht => ?_⟩
          have sm := same_new (o := .tup [V.int y.num, V.ref r]) ht
          have kk : Kd d H (upd H7 t (.tup [V.int y.num, V.ref r])) := (((Kd.of s1).trans k6).trans k7).trans (Kd.of sm)
          refine kok buy wy rfl rfl g hcall _ t r ys x (s1.free nx) (by rw [eq7]; exact hB7.same sm) kk ?_ ?_ ?_
          · rw [upd_same, yn]
          · exact sm _ _ (k7 r _ er rfl (ne_of er hB6.dc (by intro z; cases z)))
          · rw [eq7]
            exact evs_keep pe ((TupKeep.kd k7 hB6.hd).trans (.of sm))
        refine ⟨_, rfl, rfl, _, rfl, ?_⟩
        rw [dec_str, way_rest]
        by_cases hw : wy = .rest
        · rw [decide_eq_true hw]
          refine iteT ⟨_, rfl, ?_⟩
          rw [← ea]
          refine ro_rest T hO6 ⟨_, _, rfl, rfl, _, rfl, ?_⟩
          by_cases h0 : (0 : Int) < om.rest
          · rw [decide_eq_true h0]
            refine iteT ⟨_, rfl, mB hB6 rfl ⟨_, rfl, b, d, Bm, om, rfl, hB6, hO6, .inr hn6, hl6, fun H7 hB7 hx fr => ?_⟩⟩
            obtain ⟨y, ya, yn, yp, hy⟩ := hx
            rw [ea]
            refine fin H7 _ hB7 ⟨y, ya.trans ea, yn.trans lk.num, hy⟩ (fun a v h i n => fr a v h ?_ n ?_) (by rw [eq, if_pos ⟨hw, h0⟩])
            · intro z
              obtain ⟨dx, e⟩ := hB6.bk
              rw [z, e] at h
              cases h
              cases i
            · intro z
              obtain ⟨dx, e⟩ := hO6
              rw [z, e] at h
              cases h
              cases i
          · rw [decide_eq_false h0, ea]
            exact iteF (fin H6 Bm hB6 ⟨om, ea, lk.num, hO6⟩ (Kd.refl _ _) (by rw [eq, if_neg fun z => h0 z.2]))
        · rw [decide_eq_false hw]
          exact iteF (iteF (fin H6 Bm hB6 ⟨om, ea, lk.num, hO6⟩ (Kd.refl _ _) (by rw [eq, if_neg fun z => hw z.1])))
      refine ⟨_, rfl, rb_many T hB2 ⟨_, _, rfl, rfl, _, rfl, wb_many T hB2 fun H3 hB3 s3 => ?_⟩⟩
      have hO3 := hO2.but s3 (hO2.nb hB2)
      have k3 : Kd d H1 H3 := (Kd.of sA).trans (let ⟨_, e⟩ := hB2.bk; Kd.ins e s3)
      refine ⟨by show 0 ≤ sizeLine; decide, fun r0 hr0 => ?_⟩
      have sm4 := same_new (o := .lst []) hr0
      have hB4 := hB3.same sm4
      have hO4 := hO3.same sm4
      have k4 := k3.trans (Kd.of (d := d) sm4)
      have whole : ∀ c, (!B.calling && (decide (wy ≠ .whole) || canFill B.ords (newOrd B x owner buy price many shows))) = c → placeB B (newOrd B x owner buy price many shows) wy =
          ((if c = true then matchAll ({ B with many := B.many + 1 }, newOrd B x owner buy price many shows) else ([], ({ B with many := B.many + 1 }, newOrd B x owner buy price many shows))).1,
            if wy = .rest ∧ 0 < (if c = true then matchAll ({ B with many := B.many + 1 }, newOrd B x owner buy price many shows) else ([], ({ B with many := B.many + 1 }, newOrd B x owner buy price many shows))).2.2.rest then
              (if c = true then matchAll ({ B with many := B.many + 1 }, newOrd B x owner buy price many shows) else ([], ({ B with many := B.many + 1 }, newOrd B x owner buy price many shows))).2.1.put
                (if c = true then matchAll ({ B with many := B.many + 1 }, newOrd B x owner buy price many shows) else ([], ({ B with many := B.many + 1 }, newOrd B x owner buy price many shows))).2.2
            else (if c = true then matchAll ({ B with many := B.many + 1 }, newOrd B x owner buy price many shows) else ([], ({ B with many := B.many + 1 }, newOrd B x owner buy price many shows))).2.1) := fun c e => by
        subst e
        rfl
      refine ⟨_, rfl, rb_calling T hB4 ⟨_, rfl, ?_⟩⟩
      cases hc : B.calling with
      | true =>
        refine iteF (iteF ?_)
        exact rest _ r0 [] [] { B with many := B.many + 1 } (newOrd B x owner buy price many shows) hB4 hO4 k4 upd_same .nil hnew (by show B.ords.length ≤ 1000; omega) (Like.refl _) (whole false (by rw [hc]; rfl))
      | false =>
        refine iteT ⟨_, rfl, rfl, _, rfl, ?_⟩
        rw [ne_str, way_whole]
        have mok := match_ok (s := ({ B with many := B.many + 1 }, newOrd B x owner buy price many shows)) hok1
        by_cases hw : wy = .whole
        · rw [decide_eq_true hw]
          refine iteF ⟨_, rfl, _, rfl, b, d, { B with many := B.many + 1 }, newOrd B x owner buy price many shows, rfl, hB4, priced_of hok1, by show B.ords.length ≤ 1000; omega, hO4, fun H5 s5 => ⟨_, rfl, ?_⟩⟩
          cases hcf : canFill ({ B with many := B.many + 1 } : Bk).ords (newOrd B x owner buy price many shows) with
          | true =>
            have hcf : canFill B.ords (newOrd B x owner buy price many shows) = true := hcf
            exact iteT ⟨_, rfl, _, rfl, b, d, { B with many := B.many + 1 }, newOrd B x owner buy price many shows, rfl, hB4.same s5, hO4.same s5, hok1, hnew, by show B.ords.length ≤ 1000; omega, g.m2, fun H6 r6 ys6 hB6 hO6 k6 e6 p6 =>
            rest H6 r6 ys6 _ _ _ hB6 hO6 ((k4.trans (Kd.of s5)).trans k6) e6 p6 (hnew.within mok.within mok.like) (Nat.le_trans mok.len (by show B.ords.length ≤ 1000; omega)) mok.like (whole true (by rw [hc, hcf]; simp))⟩
          | false =>
            have hcf : canFill B.ords (newOrd B x owner buy price many shows) = false := hcf
            exact iteF (rest H5 r0 [] [] { B with many := B.many + 1 } (newOrd B x owner buy price many shows) (hB4.same s5) (hO4.same s5) (k4.trans (Kd.of s5)) (s5 _ _ upd_same) .nil hnew (by show B.ords.length ≤ 1000; omega) (Like.refl _) (whole false (by rw [hc, hcf]; simp [hw])))
        · rw [decide_eq_false hw]
          exact iteT (iteT ⟨_, rfl, _, rfl, b, d, { B with many := B.many + 1 }, newOrd B x owner buy price many shows, rfl, hB4.same (L2.Same.refl _), hO4.same (L2.Same.refl _), hok1, hnew, by show B.ords.length ≤ 1000; omega, g.m2, fun H6 r6 ys6 hB6 hO6 k6 e6 p6 =>
            rest H6 r6 ys6 _ _ _ hB6 hO6 ((k4.trans (Kd.of (L2.Same.refl _))).trans k6) e6 p6 (hnew.within mok.within mok.like) (Nat.le_trans mok.len (by show B.ords.length ≤ 1000; omega)) mok.like (whole true (by rw [hc]; simp [hw]))⟩)
    cases hc : B.calling with
    | false => exact iteF (iteF (tail (by rw [hc]; intro z; cases z)))
    | true =>
      refine iteT ⟨_, rfl, rfl, _, rfl, ?_⟩
      rw [ne_str, way_rest]
      by_cases hw : wy = .rest
      · rw [decide_eq_true hw]
        exact iteF (tail fun _ => hw)
      · rw [decide_eq_false hw]
        exact iteT (know hg hc (fun z => hw (wayStr_inj (a := wy) (b := .rest) z)) H1 s1)
  · obtain ⟨fd, F⟩ := T.f_place
    exact F.kp
end
end FB

set_option maxRecDepth 100000
set_option maxHeartbeats 4000000
/-! The walks of cancel, change and of fairbook/calls.py. -/
namespace FB
open PySem PySem.Spec PyProof.Rows L2
section
variable {P : Program} {w : World} {K : PySem.W.Frag} {mg : Str → Option Value} {base : Heap}
def spCancel (K : PySem.W.Frag) : Sp := fun vs H Q E => ∃ (b d : Addr) (B : Bk) (n : Int), vs = [.ref b, .int n] ∧ BookAt K H b d B ∧
  (∀ o, findO B.ords n = some o → ∀ H', BookAt K H' b d (cancelB B n) → Kd d H H' → Q (.int o.rest) H') ∧ (findO B.ords n = none → E (.ref (He.ga K "NotThere")) none H)
theorem scCancel : FnScope ["book", "number", "order"] ["book", "number"] (defScope s_cancel) := ⟨rfl, rfl, rfl, by decide +kernel, rfl, by decide +kernel, by decide +kernel⟩
theorem w_cancel (T : Tx K mg) : Fn P w K mg base (L2.CX P w) 2 "cancel" ["book", "number"] (spCancel K) := by
  refine ⟨okX T.f_cancel scCancel (fun _ _ _ _ _ _ us hl => match us, hl with | [_, _], _ => rfl) (fun vs H Q E h => ?_) (fun cdv A outer s H vs Q E hr h => ?_), T.g_cancel, ?_⟩
  · obtain ⟨b, d, B, n, rfl, _⟩ := h
    rfl
  · obtain ⟨b, d, B, n, rfl, hB, k1, k2⟩ := h
    have GN : Mt P w K mg base (L2.CX P w) 1 "Book" "need" ["self", "number"] (spNeed K) := w_need T
    refine ⟨_, pss_cons (ps_set (i := 2) scCancel.nd rfl (Or.inl rfl) (pe_mt (pv 0) GN hr (passes_call (takes_of rfl rfl rfl rfl) (fun _ _ _ _ h => h)) (pa_cons (pv 1) pa_nil)))
      (pss_cons (ps_expr (pe_dpop1 (pe_fld (pv 0) rfl) (pv 1) ⟨rfl, rfl, rfl, rfl⟩)) (pss_one (ps_ret (pe_fld (pv 2) rfl)))), ?_⟩
    refine ⟨_, rfl, mB hB rfl ⟨_, rfl, b, d, B, n, rfl, hB, fun o e => ?_, k2⟩⟩
    obtain ⟨ho, hn⟩ := find_some e
    subst hn
    have hO := hB.os o ho
    refine ⟨_, rfl, rb_orders T hB ⟨d, rfl, .inl ⟨_, .inl hB.dc⟩, _, rfl, _, Sum.inl o.num, .ref o.ad, hB.dc, rfl, val_entry hB.ndn ho, ?_⟩⟩
    rw [drop_entry]
    exact ⟨_, rfl, ro_rest T (hO.but sb_upd (hO.nd hB)) (k1 o e _ (hB.dropped o.num) (Kd.dct sb_upd))⟩
  · obtain ⟨fd, F⟩ := T.f_cancel
    exact F.kp
def spChange (K : PySem.W.Frag) : Sp := fun vs H Q E => ∃ (b d : Addr) (B : Bk) (n m : Int), vs = [.ref b, .int n, .int m] ∧ BookAt K H b d B ∧ B.ords.length ≤ 1000 ∧
  (∀ o, findO B.ords n = some o → isCount m = true → ∀ H', BookAt K H' b d (changeB B o m) → Kd d H H' → Q .non H') ∧ (∀ o, findO B.ords n = some o → isCount m = false → E (.ref (He.ga K "BadOrder")) none H) ∧ (findO B.ords n = none → E (.ref (He.ga K "NotThere")) none H)
theorem scChange : FnScope ["book", "number", "many", "order"] ["book", "number", "many"] (defScope s_change) := ⟨rfl, rfl, rfl, by decide +kernel, rfl, by decide +kernel, by decide +kernel⟩
theorem w_change (T : Tx K mg) : Fn P w K mg base (L2.CX P w) 3 "change" ["book", "number", "many"] (spChange K) := by
  refine ⟨okX T.f_change scChange (fun _ _ _ _ _ _ us hl => match us, hl with | [_, _, _], _ => rfl) (fun vs H Q E h => ?_) (fun cdv A outer s H vs Q E hr h => ?_), T.g_change, ?_⟩
  · obtain ⟨b, d, B, n, m, rfl, _⟩ := h
    rfl
  · obtain ⟨b, d, B, n, m, rfl, hB, hlen, k1, k2, k3⟩ := h
    have GN : Mt P w K mg base (L2.CX P w) 1 "Book" "need" ["self", "number"] (spNeed K) := w_need T
    have GC : Fn P w K mg base CX0 1 "is_count" ["number"] spCount := w_count T
    have GP : Mt P w K mg base CX0 2 "Book" "put" ["self", "order"] (spPut K) := w_put T
    have hr1 := hr.mono (j := 1) (by decide)
    obtain ⟨xP, kP, bP, tP⟩ := T.e_BadOrder
    refine ⟨_, pss_cons (ps_set (i := 3) scChange.nd rfl (Or.inl rfl) (pe_mt (pv 0) GN hr1 (passes_call (takes_of rfl rfl rfl rfl) (fun _ _ _ _ h => h)) (pa_cons (pv 1) pa_nil)))
      (pss_cons (ps_if (pt_not (pt_val (pe_fn GC hr1 rfl pass0 (pa_cons (pv 2) pa_nil)))) (pss_one (ps_raise rfl (takes_of rfl rfl rfl rfl) (pmk_own PySem.F.excBase_ValueError xP T.g_BadOrder kP (raises_own bP tP) rfl))) pss_nil)
      (pss_one (ps_if (pt_cmpR op_gt (pv 2) (pe_fld (pv 3) rfl) (nomark _))
        (pss_cons (ps_fld (pv 3) (pv 2) rfl) (pss_one (ps_expr (pe_mt (pv 0) GP hr pass0 (pa_cons (pv 3) pa_nil)))))
        (pss_cons (ps_fld (pv 3) (pv 2) rfl) (pss_one (ps_fld (pv 3) (pe_callB (call_min2 rfl) (by rfl) T.z_min boot_min (pa_cons (pe_fld (pv 3) rfl) (pa_cons (pv 2) pa_nil))) rfl)))))), ?_⟩
    refine ⟨_, rfl, mB hB rfl ⟨_, rfl, b, d, B, n, rfl, hB, fun o e => ?_, k3⟩⟩
    obtain ⟨ho, hn⟩ := find_some e
    have hO := hB.os o ho
    have hm : InOrNew B.ords o := .inl ⟨o, ho, rfl, rfl⟩
    refine ⟨_, rfl, m, rfl, _, rfl, ?_⟩
    cases hc : isCount m with
    | false => exact iteT (k2 o e hc)
    | true =>
      refine iteF ⟨_, rfl, _, rfl, ro_rest T hO ⟨_, _, rfl, rfl, _, rfl, ?_⟩⟩
      by_cases h0 : o.rest < m
      · rw [decide_eq_true h0]
        refine iteT ⟨_, rfl, _, rfl, wo_rest T hO fun H1 h1 s1 => ?_⟩
        have hB1 := hB.chg hO hm h1 s1 rfl rfl
        refine ⟨_, rfl, mB hB1 rfl ⟨_, rfl, b, d, _, { o with rest := m }, rfl, hB1, h1, hm.upd rfl rfl, by rw [updO_len]; exact hlen, fun H2 hB2 hx fr => ?_⟩⟩
        refine k1 o e hc H2 ?_ ((Kd.ord hO s1).trans fun a v h i n => fr a v h ?_ n ?_)
        · unfold changeB
          rw [if_pos h0]
          exact hB2
        · intro z
          obtain ⟨dx, e⟩ := hB1.bk
          rw [z, e] at h
          cases h
          cases i
        · intro z
          obtain ⟨dx, e⟩ := h1
          have e : H1 o.ad = _ := e
          have z : a = o.ad := z
          rw [z, e] at h
          cases h
          cases i
      · rw [decide_eq_false h0]
        refine iteF ⟨_, rfl, _, rfl, wo_rest T hO fun H1 h1 s1 => ⟨_, rfl, ro_part T h1 ⟨_, rfl, _, _, rfl, ⟨_, rfl, wo_part T h1 fun H2 h2 s2 => ?_⟩⟩⟩⟩
        have hB1 := hB.chg hO hm h1 s1 rfl rfl
        have hB2 := hB1.chg h1 (hm.upd rfl rfl) h2 s2 rfl rfl
        refine k1 o e hc H2 ?_ ((Kd.ord hO s1).trans (Kd.ord h1 s2))
        unfold changeB
        rw [if_neg h0]
        have e2 := updO_upd (os := B.ords) (o1 := { o with rest := m }) (o2 := { o with rest := m, part := imin o.part m }) rfl
        rw [← e2]
        exact hB2
  · obtain ⟨fd, F⟩ := T.f_change
    exact F.kp
def spCall (K : PySem.W.Frag) : Sp := fun vs H Q E => ∃ (b d : Addr) (B : Bk), vs = [.ref b] ∧ BookAt K H b d B ∧ (B.calling = false → ∀ H', BookAt K H' b d { B with calling := true } → Kd d H H' → Q .non H') ∧ (B.calling = true → E (.ref (He.ga K "NotNow")) none H)
theorem scCall : FnScope ["book"] ["book"] (defScope s_call) := ⟨rfl, rfl, rfl, by decide +kernel, rfl, by decide +kernel, by decide +kernel⟩
theorem w_call (T : Tx K mg) : Fn P w K mg base (L2.CX P w) 1 "call" ["book"] (spCall K) := by
  refine ⟨okX T.f_call scCall (fun _ _ _ _ _ _ us hl => match us, hl with | [_], _ => rfl) (fun vs H Q E h => ?_) (fun cdv A outer s H vs Q E hr h => ?_), T.g_call, ?_⟩
  · obtain ⟨b, d, B, rfl, _⟩ := h
    rfl
  · obtain ⟨b, d, B, rfl, hB, k1, k2⟩ := h
    obtain ⟨xP, kP, bP, tP⟩ := T.e_NotNow
    refine ⟨_, pss_cons (ps_if (pt_val (pe_fld (pv 0) rfl)) (pss_one (ps_raise rfl (takes_of rfl rfl rfl rfl) (pmk_own PySem.F.excBase_ValueError xP T.g_NotNow kP (raises_own bP tP) rfl))) pss_nil)
      (pss_one (ps_fld (pv 0) pe_bl rfl)), ?_⟩
    refine ⟨_, rfl, rb_calling T hB ⟨_, rfl, ?_⟩⟩
    cases hc : B.calling with
    | true => exact iteT (k2 hc)
    | false => exact iteF ⟨_, rfl, wb_calling T hB fun H1 hB1 s1 => k1 hc H1 hB1 (let ⟨_, e⟩ := hB.bk; Kd.ins e s1)⟩
  · obtain ⟨fd, F⟩ := T.f_call
    exact F.kp
def spWanted (K : PySem.W.Frag) : Sp := fun vs H Q _ => ∃ (b d : Addr) (B : Bk) (side : Bool) (p : Int), vs = [.ref b, .str (sideStr side), .int p] ∧ BookR K H b d B ∧ Priced B.ords ∧ B.ords.length ≤ 1000 ∧ ∀ H', L2.Same H H' → Q (.int (wanted B.ords side p)) H'
theorem scWanted : FnScope ["book", "side", "price", "order"] ["book", "side", "price"] (defScope s_wanted) := ⟨rfl, rfl, rfl, by decide +kernel, rfl, by decide +kernel, by decide +kernel⟩
theorem w_wanted (T : Tx K mg) : Fn P w K mg base CX0 3 "wanted" ["book", "side", "price"] (spWanted K) := by
  refine ⟨ok0 T.f_wanted scWanted (fun _ _ _ _ _ _ us hl => match us, hl with | [_, _, _], _ => rfl) (fun vs H Q E h => ?_) (fun cdv A outer s H vs Q E hr h => ?_), T.g_wanted, ?_⟩
  · obtain ⟨b, d, B, side, p, rfl, _⟩ := h
    rfl
  · obtain ⟨b, d, B, side, p, rfl, hB, hpr, hlen, k⟩ := h
    have GR : Mt P w K mg base CX0 2 "Book" "row" ["self", "side"] (spRow K) := w_row T
    have GS : Mt P w K mg base CX0 1 "Order" "suits" ["self", "price"] (spSuits K) := w_suits T
    have hr1 := hr.mono (j := 1) (by decide)
    refine ⟨_, pss_one (ps_ret (pe_callB (cr_sum rfl) (by rfl) T.z_sum boot_sum (pa_cons
      (pe_lc (own := [("order", 3)]) (g := gName 3) (tt := tB (tMeth (CO K) "suits" (spSuits K) [] E0 (tVar 3) (tCons (tVar 2) tNil))) (te := tFld K (tVar 3) "rest") rfl scWanted.nd (pi_list (pe_mt (pv 0) GR hr pass0 (pa_cons (pv 1) pa_nil)))
        (blkOk_by (N := ["book", "side", "price", "order"]) (sc := defScope s_wanted) (by decide +kernel)) (fun _ _ _ _ _ => pg_name (i := 3) scWanted.nd rfl (Or.inl rfl)) (fun _ _ _ _ _ => pts_one (pt_val (pe_mt (pv 3) GS hr1 pass0 (pa_cons (pv 2) pa_nil))))
        (fun _ _ _ _ _ => pe_fld (pv 3) rfl)) pa_nil))), ?_⟩
    refine ⟨_, rfl, mR hB rfl ⟨_, rfl, b, d, B, side, rfl, hB, hpr, hlen, fun H1 r s1 hn hr1 => ⟨r, rfl, ⟨_, SqL.of hr1⟩, fun D hD => ?_⟩⟩⟩
    refine lc_rel (K := K) (zs := row B.ords side) (enc := refO) (p := fun o => o.suits p) (R := fun z y _ => y = .int z.rest) (SqL.of hr1) (Nat.le_trans (row_len _ _) (Nat.le_of_lt (small1000 hlen))) hD (fun _ _ _ _ _ _ _ h => h) ?_ ?_
    · intro z hz H3 s3 Qy Qn qy qn
      have hO := ((hB.os z (row_mem.mp hz).1).same (s1.trans s3))
      refine ⟨rfl, _, rfl, mO hO rfl ⟨_, rfl, z, p, rfl, hO, _, rfl, ?_⟩⟩
      cases e : z.suits p with
      | false => exact iteF (qn e H3 (L2.Same.refl _))
      | true => exact iteT ⟨_, rfl, ro_rest T hO (qy e _ H3 (L2.Same.refl _) rfl)⟩
    · intro H3 ys3 s3 hD3 hP3
      refine ⟨D, ((row B.ords side).filter fun o => o.suits p).map (·.rest), rfl, SqL.of (by rw [hD3, paired_eq hP3, List.map_map]; rfl), ?_⟩
      exact k H3 (s1.trans s3)
  · obtain ⟨fd, F⟩ := T.f_wanted
    exact F.kp
theorem ltL_eq : ∀ xs ys : List Int, HT.lexLt xs ys = ltL xs ys
  | [], [] => rfl
  | [], _ :: _ => rfl
  | _ :: _, [] => rfl
  | x :: xs, y :: ys => by
    show (if x = y then HT.lexLt xs ys else decide (x < y)) = (if x = y then ltL xs ys else decide (x < y))
    rw [ltL_eq xs ys]
/-- what the best so far is -/
def BestAt (H : Hp) (r : Option (List Int)) (v : V) : Prop := match r with
  | none => v = .non
  | some l => ∃ t, v = .ref t ∧ H t = some (.tup (l.map V.int))
theorem BestAt.same {H H' : Hp} {r : Option (List Int)} {v : V} (h : BestAt H r v) (s : L2.Same H H') : BestAt H' r v := by
  cases r with
  | none => exact h
  | some l =>
    obtain ⟨t, e, ht⟩ := h
    exact ⟨t, e, s _ _ ht⟩
def bestI (os : List Ord) (last : Option Int) (i : Nat) : Option (List Int) := ((os.take i).map fun o => rank os last o.pr).foldl better none
theorem bestI_step {os : List Ord} {last : Option Int} {i : Nat} {o : Ord} (h : os[i]? = some o) : bestI os last (i + 1) = better (bestI os last i) (rank os last o.pr) := by
  unfold bestI
  have tk : os.take (i + 1) = os.take i ++ [o] := by
    rw [List.take_add_one, h]
    rfl
  rw [tk, List.map_append, List.foldl_append]
  rfl
theorem bestI_all {os : List Ord} {last : Option Int} : bestI os last os.length = bestOf os last := by
  unfold bestI bestOf
  rw [List.take_length]
/-- the call's price as a value -/
def PairAt (H : Hp) (r : Option (Int × Int)) (v : V) : Prop := match r with
  | none => v = .non
  | some q => ∃ t, v = .ref t ∧ H t = some (.tup [.int q.1, .int q.2])
def spCallPrice (K : PySem.W.Frag) : Sp := fun vs H Q _ => ∃ (b d : Addr) (B : Bk), vs = [.ref b] ∧ BookAt K H b d B ∧ Priced B.ords ∧ B.ords.length ≤ 1000 ∧ ∀ H' v, L2.Same H H' → PairAt H' (callPrice B.ords B.last) v → Q v H'
theorem scCallPrice : FnScope ["book", "best", "number", "price", "buys", "sells", "far", "rank"] ["book"] (defScope s_call_price) := ⟨rfl, rfl, rfl, by decide +kernel, rfl, by decide +kernel, by decide +kernel⟩
theorem w_call_price (T : Tx K mg) : Fn P w K mg base CX0 4 "call_price" ["book"] (spCallPrice K) := by
  refine ⟨ok0 T.f_call_price scCallPrice (fun _ _ _ _ _ _ us hl => match us, hl with | [_], _ => rfl) (fun vs H Q E h => ?_) (fun cdv A outer s H vs Q E hr h => ?_), T.g_call_price, ?_⟩
  · obtain ⟨b, d, B, rfl, _⟩ := h
    rfl
  · obtain ⟨b, d, B, rfl, hB, hpr, hlen, k⟩ := h
    have GW : Fn P w K mg base CX0 3 "wanted" ["book", "side", "price"] (spWanted K) := w_wanted T
    have hu := hu_of hr
    refine ⟨_, pss_cons (ps_set (i := 1) scCallPrice.nd rfl (Or.inl rfl) pe_non)
      (pss_cons (ps_lock (ps_for PassesOwn.never rfl (pi_keys (pe_fld (pv 0) rfl)) (pg_name (i := 2) scCallPrice.nd rfl (Or.inl rfl))
        (pss_cons (ps_set (i := 3) scCallPrice.nd rfl (Or.inl rfl) (pe_fld (pe_dget hu (pe_fld (pv 0) rfl) (pv 2) (fun _ _ => rfl)) rfl))
        (pss_cons (ps_set (i := 4) scCallPrice.nd rfl (Or.inl rfl) (pe_fn GW hr rfl pass0 (pa_cons (pv 0) (pa_cons (pe_gs T.k_BUY (by rfl)) (pa_cons (pv 3) pa_nil)))))
        (pss_cons (ps_set (i := 5) scCallPrice.nd rfl (Or.inl rfl) (pe_fn GW hr rfl pass0 (pa_cons (pv 0) (pa_cons (pe_gs T.k_SELL (by rfl)) (pa_cons (pv 3) pa_nil)))))
        (pss_cons (ps_set (i := 6) scCallPrice.nd rfl (Or.inl rfl) pe_int)
        (pss_cons (ps_if (pt_cmp (pc_notN (pe_fld (pv 0) rfl))) (pss_one (ps_set (i := 6) scCallPrice.nd rfl (Or.inl rfl) (pe_callB call_abs (by rfl) T.z_abs boot_abs (pa_cons (pe_op op_sub (pv 3) (pe_fld (pv 0) rfl)) pa_nil)))) pss_nil)
        (pss_cons (ps_set (i := 7) scCallPrice.nd rfl (Or.inl rfl) (pe_tup (pa_cons (pe_un un_neg (pe_callB (call_min2 rfl) (by rfl) T.z_min boot_min (pa_cons (pv 4) (pa_cons (pv 5) pa_nil))))
          (pa_cons (pe_callB call_abs (by rfl) T.z_abs boot_abs (pa_cons (pe_op op_sub (pv 4) (pv 5)) pa_nil)) (pa_cons (pv 6) (pa_cons (pv 3) pa_nil))))))
        (pss_one (ps_if (PW.pt (pw_or (pt_cmp (pc_isN (pv 1))) (pw_or1 (pt_cmpR (op_ltT hr.units0) (pv 7) (pv 1) (nomark _))))) (pss_one (ps_set (i := 1) scCallPrice.nd rfl (Or.inl rfl) (pv 7))) pss_nil))))))))))
      (pss_cons (ps_if (PW.pt (pw_or (pt_cmp (pc_isN (pv 1))) (pw_or1 (pt_cmpR op_eq (pe_ix ix_tup (pv 1) pe_int (fun _ _ => rfl)) pe_int (nomark _))))) (pss_one (ps_ret pe_non)) pss_nil)
      (pss_one (ps_ret (pe_tup (pa_cons (pe_ix ix_tup (pv 1) pe_int (fun _ _ => rfl)) (pa_cons (pe_un un_neg (pe_ix ix_tup (pv 1) pe_int (fun _ _ => rfl))) pa_nil))))))), ?_⟩
    refine ⟨d, _, hB.dc, trivial, fun od => ?_⟩
    have hL := hB.lock od
    have e0 : ∀ {H1}, L2.Same (upd H d (.frz od (.dK (B.ords.map entry)))) H1 → BookL K H1 b d od B := fun s => hL.same s
    refine ⟨_, rfl, rl_orders T hL ⟨d, od, rfl, .inl ⟨_, hL.dc, ?_⟩⟩⟩
    refine for_keys (zs := B.ords) (kf := entry) (fun i σ H1 => L2.Same (upd H d (.frz od (.dK (B.ords.map entry)))) H1 ∧ ∃ (bv : V) (v2 v3 v4 v5 v6 v7 : Option V), σ = [some (.ref b), some bv, v2, v3, v4, v5, v6, v7] ∧ BestAt H1 (bestI B.ords B.last i) bv)
      ⟨L2.Same.refl _, .non, none, none, none, none, none, none, rfl, rfl⟩ (fun i σ H1 _ h => h.1 _ _ hL.dc) ?_ ?_
    · rintro i o σ H1 hi ⟨s1, bv, v2, v3, v4, v5, v6, v7, rfl, hb⟩
      have ho : o ∈ B.ords := List.mem_of_getElem? hi
      have hL1 := e0 s1
      have hp : optV o.price = .int o.pr := by rw [hpr o ho]; rfl
      refine ⟨_, rfl, rl_orders T hL1 ⟨_, rfl, d, _, rfl, getL hL1 hB.ndn ho, ro_price T (hL1.os o ho) ?_⟩⟩
      rw [hp]
      refine ⟨_, rfl, _, rfl, b, d, B, true, o.pr, rfl, hL1.r hB.ndn, hpr, hlen, fun H2 s2 => ?_⟩
      refine ⟨_, rfl, _, rfl, b, d, B, false, o.pr, rfl, (hL1.same s2).r hB.ndn, hpr, hlen, fun H3 s3 => ?_⟩
      have s13 := s1.trans (s2.trans s3)
      have hL3 := e0 s13
      have hb3 := hb.same (s2.trans s3)
      have rp : ∀ {Q : V → Prop}, Q (optV B.last) → ∃ a C dx fs v, V.ref b = .ref a ∧ H3 a = some (.ins C dx fs) ∧ Cls K C ∧ NoAttr K C "price" ∧ fs.lookup ("price" : Str) = some v ∧ Q v := fun q => let ⟨_, e⟩ := hL3.bk; rf e T.clB T.nB_price rfl q
      have turn : ∀ (Dn : Ends), (∀ σ H1, (L2.Same (upd H d (.frz od (.dK (B.ords.map entry)))) H1 ∧ ∃ (bv : V) (v2 v3 v4 v5 v6 v7 : Option V), σ = [some (.ref b), some bv, v2, v3, v4, v5, v6, v7] ∧ BestAt H1 (bestI B.ords B.last (i + 1)) bv) → Dn.nx σ H1) → ∀ t, H3 t = none → ∀ far, [V.int (-(if wanted B.ords false o.pr < wanted B.ords true o.pr then wanted B.ords false o.pr else wanted B.ords true o.pr)), V.int (if wanted B.ords true o.pr - wanted B.ords false o.pr < 0 then -(wanted B.ords true o.pr - wanted B.ords false o.pr) else wanted B.ords true o.pr - wanted B.ords false o.pr), V.int far, V.int o.pr] = (rank B.ords B.last o.pr).map V.int →
          (tIfS (tOr (tB (tIsN (tVar 1))) (tTest (tOp (rLtT K) (tVar 7) (tVar 1)))) (tAsg (tVar 7) (gName 1)) tNext)
          Dn
          [some (.ref b), some bv, some (.int o.num), some (.int o.pr), some (.int (wanted B.ords true o.pr)), some (.int (wanted B.ords false o.pr)), some (.int far), some (.ref t)] (upd H3 t (.tup [V.int (-(if wanted B.ords false o.pr < wanted B.ords true o.pr then wanted B.ords false o.pr else wanted B.ords true o.pr)), V.int (if wanted B.ords true o.pr - wanted B.ords false o.pr < 0 then -(wanted B.ords true o.pr - wanted B.ords false o.pr) else wanted B.ords true o.pr - wanted B.ords false o.pr), V.int far, V.int o.pr])) := by
        intro Dn nxt t ht far hrk
        rw [hrk]
        have sm := same_new (o := .tup ((rank B.ords B.last o.pr).map V.int)) ht
        have st := bestI_step (last := B.last) hi
        have hb4 := hb3.same sm
        refine ⟨_, rfl, _, rfl, ?_⟩
        cases er : bestI B.ords B.last i with
        | none =>
          rw [er] at hb4 st
          have hb4 : bv = .non := hb4
          subst hb4
          exact iteT (iteT ⟨_, rfl, nxt _ _ ⟨s13.trans sm, .ref t, _, _, _, _, _, _, rfl, by rw [st]; exact ⟨t, rfl, upd_same⟩⟩⟩)
        | some l =>
          rw [er] at hb4 st
          obtain ⟨tb, rfl, htb⟩ := hb4
          refine iteF ⟨_, rfl, _, rfl, t, tb, rank B.ords B.last o.pr, l, rfl, rfl, SqT.of upd_same, SqT.of htb, _, rfl, ?_⟩
          rw [ltL_eq]
          cases hlt : ltL (rank B.ords B.last o.pr) l with
          | true =>
            refine iteT ⟨_, rfl, nxt _ _ ⟨s13.trans sm, .ref t, _, _, _, _, _, _, rfl, ?_⟩⟩
            rw [st]
            show BestAt _ (if ltL (rank B.ords B.last o.pr) l = true then _ else _) _
            rw [hlt]
            exact ⟨t, rfl, upd_same⟩
          | false =>
            refine iteF (nxt _ _ ⟨s13.trans sm, .ref tb, _, _, _, _, _, _, rfl, ?_⟩)
            rw [st]
            show BestAt _ (if ltL (rank B.ords B.last o.pr) l = true then _ else _) _
            rw [hlt]
            exact ⟨tb, rfl, htb⟩
      refine ⟨_, rfl, rp ⟨_, rfl, ?_⟩⟩
      rcases (show B.last = none ∨ ∃ l, B.last = some l by cases B.last <;> simp) with hl | ⟨l, hl⟩
      · have e : optV B.last = .non := by rw [hl]; rfl
        rw [e]
        refine iteF ⟨_, rfl, _, rfl, _, _, rfl, _, rfl, _, rfl, _, rfl, _, _, rfl, rfl, _, rfl, _, rfl, _, rfl, by show 4 ≤ sizeLine; decide, fun t ht => ?_⟩
        exact turn _ (fun _ _ h => h) t ht 0 (by unfold rank; rw [hl]; rfl)
      · have e : optV B.last = .int l := by rw [hl]; rfl
        rw [e]
        refine iteT ⟨_, rfl, _, rfl, rp ⟨_, l, rfl, by rw [hl]; rfl, _, rfl, ?_⟩⟩
        refine ⟨_, rfl, _, rfl, _, _, rfl, _, rfl, _, rfl, _, rfl, _, _, rfl, rfl, _, rfl, _, rfl, _, rfl, by show 4 ≤ sizeLine; decide, fun t ht => ?_⟩
        exact turn _ (fun _ _ h => h) t ht (iabs (o.pr - l)) (by unfold rank; rw [hl]; rfl)
    · rintro σ H1 ⟨s1, bv, v2, v3, v4, v5, v6, v7, rfl, hb⟩
      rw [bestI_all] at hb
      have hd1 := s1 _ _ hL.dc
      have sm1 : L2.Same H (upd H1 d (.dK (B.ords.map entry))) := same_unlock hB.dc s1
      have kk : ∀ H' v, L2.Same (upd H1 d (.dK (B.ords.map entry))) H' → PairAt H' (callPrice B.ords B.last) v → Q v H' := fun H' v s' h => k H' v (sm1.trans s') h
      unfold callPrice at kk
      refine ⟨hd1, _, rfl, _, rfl, ?_⟩
      cases er : bestOf B.ords B.last with
      | none =>
        rw [er] at hb kk
        have hb : bv = .non := hb
        subst hb
        exact iteT (iteT (kk _ _ (L2.Same.refl _) rfl))
      | some l =>
        rw [er] at hb kk
        obtain ⟨tb, rfl, htb⟩ := hb
        obtain ⟨o, ho, el⟩ := best_mem er
        have ht : (upd H1 d (.dK (B.ords.map entry))) tb = some (.tup (l.map V.int)) := by
          rw [upd_ne (ne_of htb hd1 (by intro z; cases z))]
          exact htb
        unfold rank at el
        subst el
        refine iteF ⟨_, rfl, tb, _, _, _, rfl, rfl, SqT.of ht, atI_nat (j := 0) rfl, rfl, _, rfl, ?_⟩
        rw [dec_int]
        cases e0 : (-imin (wanted B.ords true o.pr) (wanted B.ords false o.pr) == 0) with
        | true =>
          have e1 : -imin (wanted B.ords true o.pr) (wanted B.ords false o.pr) = 0 := by simpa using e0
          refine iteT (kk _ _ (L2.Same.refl _) ?_)
          show PairAt _ (if -imin (wanted B.ords true o.pr) (wanted B.ords false o.pr) = 0 then none else _) _
          rw [if_pos e1]
          rfl
        | false =>
          have e1 : ¬ -imin (wanted B.ords true o.pr) (wanted B.ords false o.pr) = 0 := by simpa using e0
          refine iteF ⟨_, rfl, tb, _, _, _, rfl, rfl, SqT.of ht, atI_nat (j := 3) rfl, _, rfl, tb, _, _, _, rfl, rfl, SqT.of ht, atI_nat (j := 0) rfl, _, rfl, by show 2 ≤ sizeLine; decide, fun t htn => kk _ _ (same_new htn) ?_⟩
          show PairAt _ (if -imin (wanted B.ords true o.pr) (wanted B.ords false o.pr) = 0 then none else _) _
          rw [if_neg e1]
          exact ⟨t, rfl, upd_same⟩
  · obtain ⟨fd, F⟩ := T.f_call_price
    exact F.kp
end
end FB

set_option maxRecDepth 100000
set_option maxHeartbeats 4000000
/-! The walk of uncross. -/
namespace FB
open PySem PySem.Spec PyProof.Rows L2
section
variable {P : Program} {w : World} {K : PySem.W.Frag} {mg : Str → Option Value} {base : Heap}
def ctV (c : CTr) : List V := [.str "trade", .int c.b, .int c.s, .int c.p, .int c.m]
def CtAt (H : Hp) (c : CTr) (y : V) : Prop := ∃ t, y = .ref t ∧ H t = some (.tup (ctV c))
theorem cts_keep {H H' : Hp} {cs : List CTr} {ys : List V} (h : Paired (CtAt H) cs ys) (k : TupKeep H H') : Paired (CtAt H') cs ys := paired_map (fun _ _ ⟨t, e, ht⟩ => ⟨t, e, k _ _ ht⟩) h
/-- one order of a call's trade -/
theorem unc_turn (T : Tx K mg) {H : Hp} {b d : Addr} {B : Bk} {o : Ord} {m : Int} {σ : L2.St} {Dn : Ends} (hB : BookAt K H b d B) (ho : o ∈ B.ords) (h0 : σ[0]? = some (some (.ref b))) (h6 : σ[6]? = some (some (.int m))) (h7 : σ[7]? = some (some (.ref o.ad)))
    (nx : ∀ H', BookAt K H' b d { B with ords := takeOff B.ords (lessen o m) } → OrdAt K H' (lessen o m) → (∀ a z, H a = some z → a ≠ o.ad → a ≠ d → H' a = some z) → Dn.nx σ H') :
    (tSeq (sFld K (tVar 7) (tOp (rI0 fun i j => .int (i - j)) (tFld K (tVar 7) "rest") (tVar 6)) "rest") (tSeq (tDrop (tMeth (CO K) "show" (spShow K) [] E0 (tVar 7) tNil))
      (tIfS (tTest (tOp rEq (tFld K (tVar 7) "rest") (tC (.int 0)))) (tDrop (tDPop1 (tFld K (tVar 0) "orders") (tFld K (tVar 7) "number"))) tNext))) Dn σ H := by
  have hO := hB.os o ho
  have hm : InOrNew B.ords o := .inl ⟨o, ho, rfl, rfl⟩
  refine ⟨_, h7, ro_rest T hO ⟨_, h6, _, _, rfl, rfl, _, h7, wo_rest T hO fun H1 h1 s1 => ?_⟩⟩
  have hB1 := hB.chg hO hm h1 s1 rfl rfl
  refine ⟨_, h7, mO (o := { o with rest := o.rest - m }) h1 rfl ⟨{ o with rest := o.rest - m }, rfl, h1, fun H2 h2 s2 => ?_⟩⟩
  have hB2 := hB1.chg h1 (hm.upd rfl rfl) h2 s2 rfl rfl
  have h2 : OrdAt K H2 (lessen o m) := h2
  have hB2' : BookAt K H2 b d { B with ords := updO B.ords (lessen o m) } := by
    have e := updO_upd (os := B.ords) (o1 := { o with rest := o.rest - m }) (o2 := lessen o m) rfl
    rw [← e]
    exact hB2
  have fr : ∀ a z, H a = some z → a ≠ o.ad → a ≠ d → H2 a = some z := fun a z e n _ => s2 a z n (s1 a z n e)
  refine ⟨_, h7, ro_rest T h2 ⟨rfl, _, rfl, ?_⟩⟩
  rw [dec_int]
  cases e0 : ((lessen o m).rest == 0) with
  | false =>
    have e1 : ¬ (lessen o m).rest = 0 := by simpa using e0
    refine iteF (nx H2 ?_ h2 fr)
    unfold takeOff
    rw [if_neg e1]
    exact hB2'
  | true =>
    have e1 : (lessen o m).rest = 0 := by simpa using e0
    refine iteT ⟨_, h0, rb_orders T hB2' ⟨d, rfl, .inl ⟨_, .inl hB2'.dc⟩, _, h7, ro_number T h2 ⟨_, Sum.inl o.num, .ref o.ad, hB2'.dc, rfl, val_entry (o := lessen o m) hB2'.ndn (mem_upd ⟨o, ho, rfl⟩), ?_⟩⟩⟩
    rw [drop_entry]
    have hd := hB2'.dropped o.num
    refine nx _ ?_ (h2.but sb_upd (h2.nd hB2')) fun a z e n1 n2 => by rw [upd_ne n2]; exact fr a z e n1 n2
    have ed : dropO (updO B.ords (lessen o m)) o.num = dropO B.ords o.num := dropO_upd rfl
    unfold takeOff
    rw [if_pos e1]
    show BookAt K _ b d { B with ords := dropO B.ords o.num }
    rw [← ed]
    exact hd
def spUncross (K : PySem.W.Frag) : Sp := fun vs H Q E => ∃ (b d : Addr) (B : Bk), vs = [.ref b] ∧ BookAt K H b d B ∧ BkOk B ∧ B.ords.length ≤ 1000 ∧
  (B.calling = true → ∀ H' r ys, BookAt K H' b d (uncrossB B).2 → Kd d H H' → H' r = some (.lst ys) → Paired (CtAt H') (uncrossB B).1 ys → Q (.ref r) H') ∧ (B.calling = false → E (.ref (He.ga K "NotNow")) none H)
/-- between two turns -/
structure UMid (K : PySem.W.Frag) (H0 : Hp) (b d t0 r rb rs : Addr) (p n : Int) (u0 : US) (H : Hp) (u : US) (cs : List CTr) (ys : List V) : Prop where
  hB : BookAt K H b d u.B
  ok : UOk u
  len : u.B.ords.length ≤ 1000
  kd : Kd d H0 H
  fnd : H t0 = some (.tup [.int p, .int n])
  lst : H r = some (.lst ys)
  pct : Paired (CtAt H) cs ys
  lb : H rb = some (.lst (u.buys.map refO))
  ls : H rs = some (.lst (u.sells.map refO))
  nb : rb ≠ r
  ns : rs ≠ r
  all : iter (ustep p) n.toNat u0 = (cs ++ (iter (ustep p) (muU u) u).1, (iter (ustep p) (muU u) u).2)
  mu : cs.length + muU u ≤ 10000000
theorem Kd.lst2 {d r : Addr} {H H2 H' : Hp} {xs ys : List V} (k2 : Kd d H H2) (hn : H2 r = none) (k : Kd d H H') (e : H' r = some (.lst xs)) : Kd d H (upd H' r (.lst ys)) := fun a x h i n => by
  rw [upd_ne (ne_of_none (k2 a x h i n) hn)]
  exact k a x h i n
theorem nodup_len {α : Type} [DecidableEq α] : ∀ {l m : List α}, l.Nodup → (∀ x ∈ l, x ∈ m) → l.length ≤ m.length
  | [], _, _, _ => Nat.zero_le _
  | a :: l, m, hn, hs => by
    rw [List.nodup_cons] at hn
    have ha := hs a List.mem_cons_self
    have ih := nodup_len (l := l) (m := m.erase a) hn.2 fun x hx => by
      refine (List.mem_erase_of_ne (fun e : x = a => hn.1 (by rw [← e]; exact hx))).mpr (hs x (List.mem_cons_of_mem _ hx))
    rw [List.length_erase_of_mem ha] at ih
    have : 0 < m.length := List.length_pos_of_mem ha
    rw [List.length_cons]
    omega
theorem ulenOk {H0 : Hp} {b d t0 r rb rs : Addr} {p n : Int} {u0 : US} {H : Hp} {u : US} {cs : List CTr} {ys : List V} (M : UMid K H0 b d t0 r rb rs p n u0 H u cs ys) : ys.length < sizeLine := by
  have h1 := paired_len M.pct
  have h2 := M.mu
  rw [sizeLine_eq]
  omega
theorem scUncross : FnScope ["book", "found", "told", "left", "buys", "sells", "many", "order"] ["book"] (defScope s_uncross) := ⟨rfl, rfl, rfl, by decide +kernel, rfl, by decide +kernel, by decide +kernel⟩
theorem w_uncross (T : Tx K mg) : Fn P w K mg base (L2.CX P w) 5 "uncross" ["book"] (spUncross K) := by
  refine ⟨okX T.f_uncross scUncross (fun _ _ _ _ _ _ us hl => match us, hl with | [_], _ => rfl) (fun vs H Q E h => ?_) (fun cdv A outer s H vs Q E hr h => ?_), T.g_uncross, ?_⟩
  · obtain ⟨b, d, B, rfl, _⟩ := h
    rfl
  · obtain ⟨b, d, B, rfl, hB, hok, hlen, k1, k2⟩ := h
    have GR : Mt P w K mg base CX0 2 "Book" "row" ["self", "side"] (spRow K) := w_row T
    have GT : Mt P w K mg base CX0 1 "Book" "trade" ["self", "price", "many"] (spTrade K) := w_trade T
    have GS : Mt P w K mg base CX0 1 "Order" "show" ["self"] (spShow K) := w_show T
    have GC : Fn P w K mg base CX0 4 "call_price" ["book"] (spCallPrice K) := w_call_price T
    obtain ⟨xP, kP, bP, tP⟩ := T.e_NotNow
    have hr1 := hr.mono (j := 1) (by decide)
    have hr2 := hr.mono (j := 2) (by decide)
    refine ⟨_, pss_cons (ps_if (pt_not (pt_val (pe_fld (pv 0) rfl))) (pss_one (ps_raise rfl (takes_of rfl rfl rfl rfl) (pmk_own PySem.F.excBase_ValueError xP T.g_NotNow kP (raises_own bP tP) rfl))) pss_nil)
      (PSs.nox (pss_cons (ps_fld (pv 0) pe_bl rfl)
      (pss_cons (ps_set (i := 1) scUncross.nd rfl (Or.inl rfl) (pe_fn GC hr rfl pass0 (pa_cons (pv 0) pa_nil)))
      (pss_cons (ps_if (pt_cmp (pc_isN (pv 1))) (pss_one (ps_ret (pe_lst pa_nil))) pss_nil)
      (pss_cons (ps_set (i := 2) scUncross.nd rfl (Or.inl rfl) (pe_lst pa_nil))
      (pss_cons (ps_set (i := 3) scUncross.nd rfl (Or.inl rfl) (pe_ix ix_tup (pv 1) pe_int (fun _ _ => rfl)))
      (pss_cons (ps_set (i := 4) scUncross.nd rfl (Or.inl rfl) (pe_mt (pv 0) GR hr2 pass0 (pa_cons (pe_gs T.k_BUY (by rfl)) pa_nil)))
      (pss_cons (ps_set (i := 5) scUncross.nd rfl (Or.inl rfl) (pe_mt (pv 0) GR hr2 pass0 (pa_cons (pe_gs T.k_SELL (by rfl)) pa_nil)))
      (pss_cons (ps_while PassesOwn.never (pt_cmpR op_gt (pv 3) pe_int (nomark _))
        (pss_cons (ps_set (i := 6) scUncross.nd rfl (Or.inl rfl) (pe_callB (call_min3 rfl) (by rfl) T.z_min boot_min (pa_cons (pv 3) (pa_cons (pe_fld (pe_ix ix_list (pv 4) pe_int (fun _ _ => rfl)) rfl) (pa_cons (pe_fld (pe_ix ix_list (pv 5) pe_int (fun _ _ => rfl)) rfl) pa_nil)))))
        (pss_cons (ps_expr (pe_bm PySem.F.plainAttrs_list PySem.F.slot_list_append PySem.F.type_list_append mt_append (pv 2) (pa_cons (pe_tup (pa_cons pe_str (pa_cons (pe_fld (pe_ix ix_list (pv 4) pe_int (fun _ _ => rfl)) rfl)
          (pa_cons (pe_fld (pe_ix ix_list (pv 5) pe_int (fun _ _ => rfl)) rfl) (pa_cons (pe_ix ix_tup (pv 1) pe_int (fun _ _ => rfl)) (pa_cons (pv 6) pa_nil)))))) pa_nil)))
        (pss_cons (ps_expr (pe_mt (pv 0) GT hr1 pass0 (pa_cons (pe_ix ix_tup (pv 1) pe_int (fun _ _ => rfl)) (pa_cons (pv 6) pa_nil))))
        (pss_cons (ps_set (i := 3) scUncross.nd rfl (Or.inl rfl) (pe_op op_sub (pv 3) (pv 6)))
        (pss_cons (ps_for PassesOwn.never rfl (pi_tup (pe_tup (pa_cons (pe_ix ix_list (pv 4) pe_int (fun _ _ => rfl)) (pa_cons (pe_ix ix_list (pv 5) pe_int (fun _ _ => rfl)) pa_nil)))) (pg_name (i := 7) scUncross.nd rfl (Or.inl rfl))
          (pss_cons (ps_fld (pv 7) (pe_op op_sub (pe_fld (pv 7) rfl) (pv 6)) rfl)
          (pss_cons (ps_expr (pe_mt0 (pv 7) GS hr1 pass0))
          (pss_one (ps_if (pt_cmpR op_eq (pe_fld (pv 7) rfl) pe_int (nomark _)) (pss_one (ps_expr (pe_dpop1 (pe_fld (pv 0) rfl) (pe_fld (pv 7) rfl) ⟨rfl, rfl, rfl, rfl⟩))) pss_nil)))))
        (pss_cons (ps_setLc (i := 4) (own := [("order", 7)]) (g := gName 7) (tt := tTest (tOp (rI0 fun i j => .bl (decide (j < i))) (tFld K (tVar 7) "rest") (tC (.int 0)))) (te := tVar 7) rfl scUncross.nd rfl rfl (sw_true rfl rfl rfl (by decide +kernel)) (pi_list (pv 4))
            (blkOk_by (N := ["book", "found", "told", "left", "buys", "sells", "many", "order"]) (sc := defScope s_uncross) (by decide +kernel)) (fun _ _ _ _ _ => pg_name (i := 7) scUncross.nd rfl (Or.inl rfl)) (fun _ _ _ _ _ => pts_one (pt_cmpR op_gt (pe_fld (pv 7) rfl) pe_int (nomark _))) (fun _ _ _ _ _ => pv 7))
        (pss_one (ps_setLc (i := 5) (own := [("order", 7)]) (g := gName 7) (tt := tTest (tOp (rI0 fun i j => .bl (decide (j < i))) (tFld K (tVar 7) "rest") (tC (.int 0)))) (te := tVar 7) rfl scUncross.nd rfl rfl (sw_true rfl rfl rfl (by decide +kernel)) (pi_list (pv 5))
            (blkOk_by (N := ["book", "found", "told", "left", "buys", "sells", "many", "order"]) (sc := defScope s_uncross) (by decide +kernel)) (fun _ _ _ _ _ => pg_name (i := 7) scUncross.nd rfl (Or.inl rfl)) (fun _ _ _ _ _ => pts_one (pt_cmpR op_gt (pe_fld (pv 7) rfl) pe_int (nomark _))) (fun _ _ _ _ _ => pv 7))))))))))
      (pss_one (ps_ret (pv 2)))))))))))), ?_⟩
    refine ⟨_, rfl, rb_calling T hB ⟨_, rfl, ?_⟩⟩
    cases hc : B.calling with
    | false => exact iteT (k2 hc)
    | true =>
      have k1 := k1 hc
      refine iteF ⟨_, rfl, wb_calling T hB fun H1 hB1 s1 => ?_⟩
      have kd1 : Kd d H H1 := let ⟨_, e⟩ := hB.bk; Kd.ins e s1
      refine ⟨_, rfl, b, d, _, rfl, hB1, priced_of (calling_ok hok false), hlen, fun H2 v s2 hv => ?_⟩
      have hv : PairAt H2 (callPrice B.ords B.last) v := hv
      have hB2 := hB1.same s2
      have kd2 := kd1.trans (Kd.of (d := d) s2)
      unfold uncrossB at k1
      refine ⟨_, rfl, ?_⟩
      cases ec : callPrice B.ords B.last with
      | none =>
        rw [ec] at hv k1
        have hv : v = .non := hv
        subst hv
        refine ⟨_, rfl, iteT ⟨by show 0 ≤ sizeLine; decide, fun r hr => ?_⟩⟩
        exact k1 _ r [] (hB2.same (same_new hr)) (kd2.trans (Kd.of (same_new hr))) upd_same .nil
      | some q =>
        obtain ⟨p, n⟩ := q
        rw [ec] at hv k1
        obtain ⟨t0, rfl, ht0⟩ := hv
        have k1 : ∀ H' r ys, BookAt K H' b d (iter (ustep p) n.toNat { left := n, buys := row B.ords true, sells := row B.ords false, B := { B with calling := false } }).2.B → Kd d H H' → H' r = some (.lst ys) →
          Paired (CtAt H') (iter (ustep p) n.toNat { left := n, buys := row B.ords true, sells := row B.ords false, B := { B with calling := false } }).1 ys → Q (.ref r) H' := k1
        have hst := ustart_ok hok ec
        generalize hu0 : ({ left := n, buys := row B.ords true, sells := row B.ords false, B := { B with calling := false } } : US) = u0 at k1 hst
        refine ⟨_, rfl, iteF ⟨by show 0 ≤ sizeLine; decide, fun r hrn => ?_⟩⟩
        have sm3 := same_new (o := .lst []) hrn
        have hB3 := hB2.same sm3
        refine ⟨_, rfl, t0, _, _, _, rfl, rfl, SqT.of (sm3 _ _ ht0), atI_nat (j := 1) rfl, ?_⟩
        refine ⟨_, rfl, mB hB3 rfl ⟨b, d, _, true, rfl, hB3.r, priced_of (calling_ok hok false), hlen, fun H4 rb s4 n4 e4 => ⟨_, rfl, mB (hB3.same s4) rfl ⟨b, d, _, false, rfl, (hB3.same s4).r, priced_of (calling_ok hok false), hlen, fun H5 rs s5 n5 e5 => ?_⟩⟩⟩⟩
        have s25 := sm3.trans (s4.trans s5)
        have fin : ∀ H1 rb rs u cs ys, UMid K H b d t0 r rb rs p n u0 H1 u cs ys → ustep p u = none → Q (.ref r) H1 := fun H1 rb rs u cs ys M e => by
          have e2 := M.all
          rw [iter_none e, List.append_nil] at e2
          exact k1 H1 r ys (by rw [e2]; exact M.hB) M.kd M.lst (by rw [e2]; exact M.pct)
        refine ⟨fun m σ H1 => ∃ u cs ys v6 v7 rb rs, σ = [some (.ref b), some (.ref t0), some (.ref r), some (.int u.left), some (.ref rb), some (.ref rs), v6, v7] ∧ UMid K H b d t0 r rb rs p n u0 H1 u cs ys ∧ m = muU u,
          ⟨_, u0, [], [], none, none, rb, rs, by rw [← hu0]; rfl, ⟨?_, hst, ?_, kd2.trans (Kd.of s25), s25 _ _ ht0, s5 _ _ (s4 _ _ upd_same), .nil, ?_, ?_, ?_, ?_, ?_, ?_⟩, rfl⟩, ?_⟩
        · rw [← hu0]
          exact hB2.same s25
        · rw [← hu0]
          exact hlen
        · rw [← hu0]
          exact s5 _ _ e4
        · rw [← hu0]
          exact e5
        · exact (ne_of_none upd_same n4).symm
        · exact (ne_of_none (s4 _ _ upd_same) n5).symm
        · rw [show muU u0 = n.toNat by rw [← hu0]; rfl]
          rfl
        · have h1 := hst.lb
          have h2 := restSum_le (os := row B.ords true) fun o ho => (hok.os o (row_mem.mp ho).1).rmax
          have h3 := row_len B.ords true
          rw [← hu0] at h1 ⊢
          have h1 : n ≤ restSum (row B.ords true) := h1
          show 0 + n.toNat ≤ 10000000
          omega
        rintro m σ H6 ⟨u, cs, ys, v6, v7, rb, rs, rfl, M, rfl⟩
        refine ⟨_, rfl, _, _, rfl, rfl, _, rfl, ?_⟩
        by_cases h0 : (0 : Int) < u.left
        · rw [decide_eq_true h0]
          refine iteT ⟨_, fun _ _ h => h, ?_⟩
          obtain ⟨x, bs, y, ss, eb, es⟩ := M.ok.heads h0
          have hx := (M.ok.bs x (by rw [eb]; exact List.mem_cons_self)).1
          have hy := (M.ok.ss y (by rw [es]; exact List.mem_cons_self)).1
          have lb6 := M.lb
          have ls6 := M.ls
          rw [eb] at lb6
          rw [es] at ls6
          have hx6 := M.hB.os x hx
          have hy6 := M.hB.os y hy
          have st := ustep_some (p := p) h0 eb es
          have sk := ustep_ok M.ok st
          have ti := tail_in M.ok eb es (least3 u.left x.rest y.rest)
          have nad : x.ad ≠ y.ad := fun z => ti.2.2.2 (by rw [nodup_inj M.hB.nda hx hy z])
          refine ⟨_, rfl, _, rfl, rb, _, _, _, rfl, rfl, SqL.of lb6, atI_nat (j := 0) rfl, ro_rest T hx6 ⟨_, rfl, rs, _, _, _, rfl, rfl, SqL.of ls6, atI_nat (j := 0) rfl, ro_rest T hy6 ⟨_, _, _, rfl, ?_⟩⟩⟩
          have hm : ∃ m, m = least3 u.left x.rest y.rest := ⟨_, rfl⟩
          obtain ⟨m, em⟩ := hm
          rw [← em] at st sk ti ⊢
          refine ⟨_, rfl, .inl ⟨rfl, _, SqL.of M.lst⟩, _, rfl, rb, _, _, _, rfl, rfl, SqL.of lb6, atI_nat (j := 0) rfl, ro_number T hx6 ⟨_, rfl, rs, _, _, _, rfl, rfl, SqL.of ls6, atI_nat (j := 0) rfl, ro_number T hy6
            ⟨_, rfl, t0, _, _, _, rfl, rfl, SqT.of M.fnd, atI_nat (j := 0) rfl, _, rfl, by show 5 ≤ sizeLine; decide, fun t ht => ⟨r, ys, .ref t, rfl, rfl, by rw [upd_ne (ne_of_none M.lst ht)]; exact M.lst, ulenOk M, ?_⟩⟩⟩⟩
          -- behind the append
          have smt := same_new (o := .tup (ctV ⟨x.num, y.num, p, m⟩)) ht
          have r6 : (upd H6 t (.tup (ctV ⟨x.num, y.num, p, m⟩))) r = some (.lst ys) := smt _ _ M.lst
          obtain ⟨H7, e7⟩ : ∃ H7, H7 = upd (upd H6 t (.tup (ctV ⟨x.num, y.num, p, m⟩))) r (.lst (ys ++ [.ref t])) := ⟨_, rfl⟩
          have hB7 : BookAt K H7 b d u.B := by rw [e7]; exact (M.hB.same smt).lst r6
          have kd7 : Kd d H H7 := by rw [e7]; exact Kd.lst2 kd2 hrn (M.kd.trans (Kd.of smt)) r6
          have tk7 : TupKeep H6 H7 := by rw [e7]; exact (TupKeep.of smt).trans (.lst r6)
          have lb7 : H7 rb = some (.lst ((x :: bs).map refO)) := by rw [e7, upd_ne M.nb]; exact smt _ _ lb6
          have ls7 : H7 rs = some (.lst ((y :: ss).map refO)) := by rw [e7, upd_ne M.ns]; exact smt _ _ ls6
          have r7 : H7 r = some (.lst (ys ++ [.ref t])) := by rw [e7, upd_same]
          have t7 : H7 t = some (.tup (ctV ⟨x.num, y.num, p, m⟩)) := by rw [e7]; exact TupKeep.lst r6 _ _ upd_same
          have f7 := tk7 _ _ M.fnd
          change (tSeq (tDrop (tMeth (CB K) "trade" (spTrade K) [] E0 (tVar 0) (tCons (tOp (rIxT K) (tVar 1) (tC (.int 0))) (tCons (tVar 6) tNil)))) _) _ _ (upd (upd H6 t (.tup (ctV ⟨x.num, y.num, p, m⟩))) r (.lst (ys ++ [.ref t])))
          rw [← e7]
          refine ⟨_, rfl, mB hB7 rfl ⟨_, rfl, t0, _, _, _, rfl, rfl, SqT.of f7, atI_nat (j := 0) rfl, _, rfl, b, d, _, p, m, rfl, hB7, fun H8 hB8 s8 => ?_⟩⟩
          have kd8 : Kd d H7 H8 := let ⟨_, e⟩ := hB7.bk; Kd.ins e s8
          have lb8 := kd8 _ _ lb7 rfl (ne_of lb7 hB7.dc (by intro z; cases z))
          have ls8 := kd8 _ _ ls7 rfl (ne_of ls7 hB7.dc (by intro z; cases z))
          refine ⟨_, rfl, _, rfl, _, _, rfl, rfl, ?_⟩
          refine ⟨_, rfl, rb, _, _, _, rfl, rfl, SqL.of lb8, atI_nat (j := 0) rfl, _, rfl, rs, _, _, _, rfl, rfl, SqL.of ls8, atI_nat (j := 0) rfl, by show 2 ≤ sizeLine; decide, fun q hq => ⟨q, rfl, ⟨_, SqT.of upd_same⟩, ?_⟩⟩
          have sm9 := same_new (o := .tup [refO x, refO y]) hq
          have hB9 := hB8.same sm9
          refine for_tup (K := K) (a := q) (xs := [refO x, refO y]) (fun i σ H1 => Kd d (upd H8 q (.tup [refO x, refO y])) H1 ∧ (∃ v7, σ = [some (.ref b), some (.ref t0), some (.ref r), some (.int (u.left - m)), some (.ref rb), some (.ref rs), some (.int m), v7]) ∧
              ((i = 0 ∧ BookAt K H1 b d { u.B with last := some p, traded := u.B.traded + m }) ∨
               (i = 1 ∧ BookAt K H1 b d { u.B with last := some p, traded := u.B.traded + m, ords := takeOff u.B.ords (lessen x m) } ∧ OrdAt K H1 (lessen x m)) ∨
               (i = 2 ∧ BookAt K H1 b d { u.B with last := some p, traded := u.B.traded + m, ords := takeOff (takeOff u.B.ords (lessen x m)) (lessen y m) } ∧ OrdAt K H1 (lessen x m) ∧ OrdAt K H1 (lessen y m))))
            ⟨Kd.refl _ _, ⟨_, rfl⟩, .inl ⟨rfl, hB9⟩⟩ (fun i σ H1 _ h => SqT.of (h.1 _ _ upd_same rfl (ne_of upd_same hB9.dc (by intro z; cases z)))) ?_ ?_
          · rintro i z σ H1 hi ⟨k9, ⟨v7, rfl⟩, hh⟩
            rcases hh with ⟨rfl, hBk⟩ | ⟨rfl, hBk, hOx⟩ | ⟨rfl, _⟩
            · have ez : refO x = z := Option.some.inj hi
              subst ez
              refine unc_turn T hBk (o := x) (m := m) hx rfl rfl rfl fun H' hB' hO' fr => ⟨k9.trans ?_, ⟨_, rfl⟩, .inr (.inl ⟨rfl, hB', hO'⟩)⟩
              intro a v e i n
              refine fr a v e (fun z => ?_) n
              obtain ⟨dx, e2⟩ := hBk.os x hx
              rw [z, e2] at e
              cases e
              cases i
            · have ez : refO y = z := Option.some.inj hi
              subst ez
              refine unc_turn T hBk (o := y) (m := m) ti.2.2.1 rfl rfl rfl fun H' hB' hO' fr => ⟨k9.trans ?_, ⟨_, rfl⟩, .inr (.inr ⟨rfl, hB', ?_, hO'⟩)⟩
              · intro a v e i n
                refine fr a v e (fun z => ?_) n
                obtain ⟨dx, e2⟩ := hBk.os y ti.2.2.1
                rw [z, e2] at e
                cases e
                cases i
              · have nd := OrdAt.nd (o := lessen x m) hOx hBk
                obtain ⟨dx, e2⟩ := hOx
                exact ⟨dx, fr _ _ e2 nad nd⟩
            · cases hi
          · rintro σ H1 ⟨k9, ⟨v7, rfl⟩, hh⟩
            rcases hh with ⟨z, _⟩ | ⟨z, _⟩ | ⟨_, hBk, hOx, hOy⟩
            · cases z
            · cases z
            have k71 : Kd d H7 H1 := (kd8.trans (Kd.of sm9)).trans k9
            have lb1 := k71 _ _ lb7 rfl (ne_of lb7 hB7.dc (by intro z; cases z))
            have ls1 := k71 _ _ ls7 rfl (ne_of ls7 hB7.dc (by intro z; cases z))
            have lenb : (lessen x m :: bs).length ≤ sizeLine := by
              have h1 : bs.length + 1 ≤ u.B.ords.length := by
                have e : u.buys.length = bs.length + 1 := by rw [eb]; rfl
                rw [← e]
                have := nodup_len M.ok.nb fun z hz => by
                  obtain ⟨o, ho, e⟩ := List.mem_map.mp hz
                  exact List.mem_map.mpr ⟨o, (M.ok.bs o ho).1, e⟩
                rwa [List.length_map, List.length_map] at this
              have := M.len
              rw [List.length_cons, sizeLine_eq]
              omega
            have lens : (lessen y m :: ss).length ≤ sizeLine := by
              have h1 : ss.length + 1 ≤ u.B.ords.length := by
                have e : u.sells.length = ss.length + 1 := by rw [es]; rfl
                rw [← e]
                have := nodup_len M.ok.ns fun z hz => by
                  obtain ⟨o, ho, e⟩ := List.mem_map.mp hz
                  exact List.mem_map.mpr ⟨o, (M.ok.ss o ho).1, e⟩
                rwa [List.length_map, List.length_map] at this
              have := M.len
              rw [List.length_cons, sizeLine_eq]
              omega
            refine ⟨_, rfl, rb, rfl, ⟨_, SqL.of lb1⟩, fun D hD => ?_⟩
            refine lc_rel (K := K) (zs := lessen x m :: bs) (enc := refO) (p := fun o => decide (0 < o.rest)) (R := fun z y' _ => y' = refO z) (SqL.of lb1) lenb hD (fun _ _ _ _ _ _ _ h => h) ?_ ?_
            · intro z hz H2 s2 Qy Qn qy qn
              have hO : OrdAt K H2 z := by
                rcases List.mem_cons.mp hz with e | hz
                · rw [e]
                  exact OrdAt.same (o := lessen x m) hOx s2
                · exact (hBk.os z (ti.1 z hz)).same s2
              refine ⟨rfl, _, rfl, ro_rest T hO ⟨_, _, rfl, rfl, _, rfl, ?_⟩⟩
              cases e : decide (0 < z.rest) with
              | false => exact iteF (qn e H2 (L2.Same.refl _))
              | true => exact iteT ⟨_, rfl, qy e _ H2 (L2.Same.refl _) rfl⟩
            · intro H2 ys2 s2 hD2 hP2
              have ls2 := s2 _ _ ls1
              refine ⟨_, rfl, rs, rfl, ⟨_, SqL.of ls2⟩, fun D' hD' => ?_⟩
              refine lc_rel (K := K) (zs := lessen y m :: ss) (enc := refO) (p := fun o => decide (0 < o.rest)) (R := fun z y' _ => y' = refO z) (SqL.of ls2) lens hD' (fun _ _ _ _ _ _ _ h => h) ?_ ?_
              · intro z hz H3 s3 Qy Qn qy qn
                have hO : OrdAt K H3 z := by
                  rcases List.mem_cons.mp hz with e | hz
                  · rw [e]
                    exact OrdAt.same (o := lessen y m) hOy (s2.trans s3)
                  · exact (hBk.os z (ti.2.1 z hz)).same (s2.trans s3)
                refine ⟨rfl, _, rfl, ro_rest T hO ⟨_, _, rfl, rfl, _, rfl, ?_⟩⟩
                cases e : decide (0 < z.rest) with
                | false => exact iteF (qn e H3 (L2.Same.refl _))
                | true => exact iteT ⟨_, rfl, qy e _ H3 (L2.Same.refl _) rfl⟩
              · intro H3 ys3 s3 hD3 hP3
                have s13 := s2.trans s3
                have k73 : Kd d H7 H3 := k71.trans (Kd.of s13)
                have tk3 : TupKeep H7 H3 := TupKeep.kd k73 hB7.hd
                have r1 := k71 _ _ r7 rfl (ne_of r7 hB7.dc (by intro z; cases z))
                refine ⟨_, sk.mu, _, cs ++ [⟨x.num, y.num, p, m⟩], ys ++ [.ref t], _, _, D, D', rfl,
                  ⟨hBk.same s13, sk.ok, Nat.le_trans sk.len M.len, kd7.trans k73, tk3 _ _ f7, s13 _ _ r1, ?_, ?_, ?_, ?_, ?_, ?_, ?_⟩, rfl⟩
                · exact paired_snoc (cts_keep M.pct (tk7.trans tk3)) ⟨t, rfl, tk3 _ _ t7⟩
                · rw [s3 _ _ hD2, paired_eq hP2]
                  rfl
                · rw [hD3, paired_eq hP3]
                  rfl
                · exact (ne_of_none r1 hD).symm
                · exact (ne_of_none (s2 _ _ r1) hD').symm
                · rw [M.all, uiter_step M.ok st, List.append_assoc]
                  rfl
                · have h1 := sk.mu
                  have h2 := M.mu
                  rw [List.length_append]
                  show cs.length + 1 + _ ≤ _
                  omega
        · rw [decide_eq_false h0]
          exact iteF ⟨_, rfl, fin H6 rb rs u cs ys M (ustep_none h0)⟩
  · obtain ⟨fd, F⟩ := T.f_uncross
    exact F.kp
end
end FB

set_option maxRecDepth 100000
set_option maxHeartbeats 4000000
set_option pp.maxSteps 400
/-! The walk of Book.depth. -/
namespace FB
open PySem PySem.Spec PyProof.Rows L2
theorem paired_last {α β : Type} {F : α → β → Prop} : ∀ {l : List α} {a : α} {m : List β}, Paired F (l ++ [a]) m → ∃ m' b, m = m' ++ [b] ∧ Paired F l m' ∧ F a b
  | [], a, m, h => by
    have h : Paired F [a] m := h
    cases h with
    | cons r t =>
      cases t
      exact ⟨[], _, rfl, .nil, r⟩
  | x :: l, a, m, h => by
    have h : Paired F (x :: (l ++ [a])) m := h
    cases h with
    | cons r t =>
      obtain ⟨m', b, e, p, q⟩ := paired_last t
      exact ⟨_ :: m', b, by rw [e]; rfl, .cons r p, q⟩
theorem ifYd {c A B : Prop} [Decidable c] (hc : c) (h : A) : if decide c = true then A else B := by
  rw [if_pos (decide_eq_true hc)]
  exact h
theorem ifNd {c A B : Prop} [Decidable c] (hc : ¬ c) (h : B) : if decide c = true then A else B := by
  rw [if_neg (by simpa using hc)]
  exact h
/-- a pair of whole numbers -/
def PrAt (H : Hp) (z : Int × Int) (y : V) : Prop := ∃ t, y = .ref t ∧ H t = some (.tup [.int z.1, .int z.2])
theorem prs_keep {H H' : Hp} {zs : List (Int × Int)} {ys : List V} (h : Paired (PrAt H) zs ys) (k : TupKeep H H') : Paired (PrAt H') zs ys := paired_map (fun _ _ ⟨t, e, ht⟩ => ⟨t, e, k _ _ ht⟩) h
theorem depth_nil (o : Ord) : depthStep [] o = [(o.pr, o.part)] := rfl
theorem depth_snoc (acc : List (Int × Int)) (p m : Int) (o : Ord) : depthStep (acc ++ [(p, m)]) o = if p = o.pr then acc ++ [(p, m + o.part)] else acc ++ [(p, m)] ++ [(o.pr, o.part)] := by
  unfold depthStep
  rw [List.getLast?_concat]
  show (if p = o.pr then (acc ++ [(p, m)]).dropLast ++ [(p, m + o.part)] else _) = _
  rw [List.dropLast_concat]
theorem depth_len : ∀ (l : List Ord) (acc : List (Int × Int)), (l.foldl depthStep acc).length ≤ acc.length + l.length
  | [], acc => Nat.le_refl _
  | o :: l, acc => by
    rw [List.foldl_cons]
    have h := depth_len l (depthStep acc o)
    have h2 : (depthStep acc o).length ≤ acc.length + 1 := by
      rcases List.eq_nil_or_concat acc with e | ⟨a, z, e⟩
      · rw [e]
        exact Nat.le_refl _
      · rw [List.concat_eq_append] at e
        obtain ⟨p, m⟩ := z
        rw [e, depth_snoc]
        by_cases c : p = o.pr
        · rw [if_pos c, List.length_append, List.length_append]
          exact Nat.le_succ _
        · rw [if_neg c, List.length_append]
          exact Nat.le_refl _
    rw [List.length_cons]
    omega
section
variable {P : Program} {w : World} {K : PySem.W.Frag} {mg : Str → Option Value} {base : Heap}
def spDepth (K : PySem.W.Frag) : Sp := fun vs H Q _ => ∃ (b d : Addr) (B : Bk) (side : Bool), vs = [.ref b, .str (sideStr side)] ∧ BookAt K H b d B ∧ Priced B.ords ∧ B.ords.length ≤ 1000 ∧
  ∀ H' r ys, L2.Same H H' → H r = none → H' r = some (.lst ys) → Paired (PrAt H') (depth B.ords side) ys → Q (.ref r) H'
theorem scDepth : FnScope ["self", "side", "found", "order"] ["self", "side"] (defScope s_B_depth) := ⟨rfl, rfl, rfl, by decide +kernel, rfl, by decide +kernel, by decide +kernel⟩
theorem w_depth (T : Tx K mg) : Mt P w K mg base CX0 3 "Book" "depth" ["self", "side"] (spDepth K) := by
  refine ⟨ok0 T.f_B_depth scDepth (fun _ _ _ _ _ _ us hl => match us, hl with | [_, _], _ => rfl) (fun vs H Q E h => ?_) (fun cdv A outer s H vs Q E hr h => ?_), T.clB, T.m_B_depth⟩
  · obtain ⟨b, d, B, side, rfl, _⟩ := h
    rfl
  · obtain ⟨b, d, B, side, rfl, hB, hpr, hlen, k⟩ := h
    have GR : Mt P w K mg base CX0 2 "Book" "row" ["self", "side"] (spRow K) := w_row T
    refine ⟨_, pss_cons (ps_set (i := 2) scDepth.nd rfl (Or.inl rfl) (pe_lst pa_nil))
      (pss_cons (ps_for PassesOwn.never rfl (pi_list (pe_mt (pv 0) GR hr pass0 (pa_cons (pv 1) pa_nil))) (pg_name (i := 3) scDepth.nd rfl (Or.inl rfl))
        (pss_one (ps_if (PW.pt (pw_and (pt_truth (pv 2) (by intro _; rfl)) (pw_and1 (pt_cmpR op_eq (pe_ix ix_tup (pe_ix ix_list (pv 2) (pe_un un_neg pe_int) (fun _ _ => rfl)) pe_int (fun _ _ => rfl)) (pe_fld (pv 3) rfl) (nomark _)))))
          (pss_one (ps_asg (pe_tup (pa_cons (pe_fld (pv 3) rfl) (pa_cons (pe_op op_add (pe_ix ix_tup (pe_ix ix_list (pv 2) (pe_un un_neg pe_int) (fun _ _ => rfl)) pe_int (fun _ _ => rfl)) (pe_fld (pv 3) rfl)) pa_nil))) (pg_sub (pv 2) (pe_un un_neg pe_int) set_list)))
          (pss_one (ps_expr (pe_bm PySem.F.plainAttrs_list PySem.F.slot_list_append PySem.F.type_list_append mt_append (pv 2) (pa_cons (pe_tup (pa_cons (pe_fld (pv 3) rfl) (pa_cons (pe_fld (pv 3) rfl) pa_nil))) pa_nil)))))))
      (pss_one (ps_ret (pv 2)))), ?_⟩
    refine ⟨by show 0 ≤ sizeLine; decide, fun p hp => ?_⟩
    have s0 := same_new (o := .lst []) hp
    have hB0 := hB.same s0
    refine ⟨_, rfl, mB hB0 rfl ⟨_, rfl, b, d, B, side, rfl, hB0.r, hpr, hlen, fun H1 r s1 hn hr1 => ⟨r, rfl, ⟨_, SqL.of hr1⟩, ?_⟩⟩⟩
    have s01 := s0.trans s1
    have nrp : r ≠ p := fun z => by
      rw [z, upd_same] at hn
      cases hn
    refine for_zs (K := K) (zs := row B.ords side) (enc := refO) (fun j σ H' => ∃ v3 ys, σ = [some (.ref b), some (.str (sideStr side)), some (.ref p), v3] ∧ SameBut p H1 H' ∧ H' p = some (.lst ys) ∧ Paired (PrAt H') (((row B.ords side).take j).foldl depthStep []) ys)
      ⟨none, [], rfl, SameBut.refl _ _, s1 _ _ upd_same, .nil⟩ (fun j σ H' _ h => by
        obtain ⟨_, _, _, sb, _⟩ := h
        exact SqL.of (sb _ _ nrp hr1)) ?_ ?_
    · rintro j o σ H2 hj ⟨v3, ys, rfl, sb, hp2, pr⟩
      obtain ⟨ho, _⟩ := row_mem.mp (List.mem_of_getElem? hj)
      have hO2 : OrdAt K H2 o := by
        obtain ⟨dx, e⟩ := (hB.os o ho).same s01
        obtain ⟨dy, ey⟩ := hB.os o ho
        exact ⟨dx, sb _ _ (ne_of_none ey hp) e⟩
      have eprice : o.price = some o.pr := hpr o ho
      have tk : (row B.ords side).take (j + 1) = (row B.ords side).take j ++ [o] := by
        rw [List.take_add_one, hj]
        rfl
      have dl := depth_len ((row B.ords side).take j) []
      have lt := List.length_take_le' j (row B.ords side)
      have rl := row_len B.ords side
      generalize hacc : ((row B.ords side).take j).foldl depthStep [] = acc at pr dl
      have fold : ((row B.ords side).take (j + 1)).foldl depthStep [] = depthStep acc o := by
        rw [tk, List.foldl_append, hacc]
        rfl
      rw [fold]
      have yl : ys.length = acc.length := paired_len pr
      have add : ∀ {D : Ends} , (∀ t H3, H2 t = none → H3 = upd H2 t (.tup [.int o.pr, .int o.part]) → D.nx [some (.ref b), some (.str (sideStr side)), some (.ref p), some (refO o)] (upd H3 p (.lst (ys ++ [.ref t])))) →
          tDrop (tBM K "list" rAppend (tVar 2) (tCons (tTup (tCons (tFld K (tVar 3) "price") (tCons (tFld K (tVar 3) "part") tNil))) tNil)) D [some (.ref b), some (.str (sideStr side)), some (.ref p), some (refO o)] H2 := fun {D} q => by
        refine ⟨_, rfl, .inl ⟨rfl, _, .inl (.inl hp2)⟩, _, rfl, ro_price T hO2 ⟨_, rfl, ro_part T hO2 ⟨by show 2 ≤ sizeLine; decide, fun t ht => ?_⟩⟩⟩
        rw [eprice]
        refine ⟨p, _, _, rfl, rfl, ?_, ?_, q t _ ht rfl⟩
        · rw [upd_ne (ne_of_none hp2 ht)]
          exact hp2
        · have h3 : (2000 : Nat) ≤ sizeLine := by decide
          simp only [List.length_nil] at dl
          omega
      have tk4 : ∀ {t : Addr} {z : HO} {l : List V}, H2 t = none → TupKeep H2 (upd (upd H2 t z) p (.lst l)) := fun {t z l} ht a xs e => by
        rw [upd_ne (ne_of e hp2 (by intro z; cases z)), upd_ne (ne_of_none e ht)]
        exact e
      have sb4 : ∀ {t : Addr} {z : HO} {l : List V}, H2 t = none → SameBut p H1 (upd (upd H2 t z) p (.lst l)) := fun {t z l} ht a u ha e => by
        rw [upd_ne ha, upd_ne (ne_of_none (sb a u ha e) ht)]
        exact sb a u ha e
      rcases List.eq_nil_or_concat acc with e | ⟨acc', z, e⟩
      · subst e
        cases pr
        refine ⟨_, rfl, _, .inl ⟨[], .inl (.inl hp2), rfl⟩, iteF (iteF (add fun t H3 ht e3 => ?_))⟩
        subst e3
        refine ⟨_, _, rfl, sb4 ht, upd_same, .cons ⟨t, rfl, ?_⟩ .nil⟩
        rw [upd_ne (ne_of_none hp2 ht).symm]
        exact upd_same
      · rw [List.concat_eq_append] at e
        obtain ⟨p0, m0⟩ := z
        subst e
        obtain ⟨ys', y, ey, pr', t0, et, ht0⟩ := paired_last pr
        subst ey et
        have ht0 : H2 t0 = some (.tup [.int p0, .int m0]) := ht0
        refine ⟨_, rfl, true, .inl ⟨_, .inl (.inl hp2), by simp⟩, iteT ?_⟩
        refine ⟨_, rfl, 1, rfl, p, _, _, _, rfl, rfl, .inl (.inl hp2), atI_last _ _, t0, _, _, .int p0, rfl, rfl, .inl (.inl ht0), rfl, _, rfl, ro_price T hO2 ?_⟩
        rw [eprice]
        refine ⟨rfl, _, rfl, ?_⟩
        rw [depth_snoc]
        by_cases c : p0 = o.pr
        · rw [if_pos c]
          refine ifYd (by rw [c]; rfl) ?_
          refine ⟨_, rfl, ro_price T hO2 ?_⟩
          rw [eprice]
          refine ⟨_, rfl, 1, rfl, p, _, _, _, rfl, rfl, .inl (.inl hp2), atI_last _ _, t0, _, _, .int m0, rfl, rfl, .inl (.inl ht0), rfl, _, rfl, ro_part T hO2 ⟨_, _, rfl, rfl, by show 2 ≤ sizeLine; decide, fun t ht => ?_⟩⟩
          have ixl : ixN (ys' ++ [V.ref t0]).length (-1) = some ys'.length := by
            unfold ixN
            rw [List.length_append, if_neg (by decide), if_pos (by show -((ys'.length + 1 : Nat) : Int) ≤ -1; omega)]
            congr 1
            show (-1 + ((ys'.length + 1 : Nat) : Int)).toNat = _
            omega
          refine ⟨_, rfl, 1, rfl, p, _, _, _, rfl, rfl, (by rw [upd_ne (ne_of_none hp2 ht)]; exact hp2), ixl, ?_⟩
          have es : (ys' ++ [V.ref t0]).set ys'.length (.ref t) = ys' ++ [.ref t] := by simp
          rw [es]
          refine ⟨_, _, rfl, sb4 ht, upd_same, paired_snoc (prs_keep pr' (tk4 ht)) ⟨t, rfl, ?_⟩⟩
          rw [upd_ne (ne_of_none hp2 ht).symm, upd_same, c]
          rfl
        · rw [if_neg c]
          refine ifNd (fun z => c (V.int.inj z)) (add fun t H3 ht e3 => ?_)
          subst e3
          refine ⟨_, _, rfl, sb4 ht, upd_same, paired_snoc (prs_keep pr (tk4 ht)) ⟨t, rfl, ?_⟩⟩
          rw [upd_ne (ne_of_none hp2 ht).symm]
          exact upd_same
    · rintro σ H2 ⟨v3, ys, rfl, sb, hp2, pr⟩
      rw [List.take_length] at pr
      exact ⟨_, rfl, k H2 p ys (fun a o e => sb a o (ne_of_none e hp) (s01 a o e)) hp hp2 pr⟩
end
end FB

set_option maxRecDepth 100000
set_option maxHeartbeats 4000000
/-! What the laws share: an error kept under a name, the laws' numbers. -/
namespace FB
open PySem PySem.Spec PyProof.Rows L2
/-! ### try: .. except C as e: kept = e -/
/-- an error of the class cls that was kept under a name -/
def ErrAt (cls : Value) (a : Addr) (h : Heap) : Prop := ∃ o, h.get? a = some o ∧ Zc cls none o ∧ ∃ vs, o.data = .fields vs
def ExK (cls : Value) (a : Addr) : HO := .ext (ErrAt cls a)
theorem track {X : Cx} {pins : List (Addr × Obj)} {σ : L2.St} {H : Hp} {s : Shared} {a : Addr} {cls : Value} (I : Inv X pins σ H s) (hE : ErrAt cls a s.heap) (na : H a = none) (old : X.s_0.heap.get? a = none) (nL : a ≠ X.env.locals)
    (np : ∀ p ∈ X.pn ++ pins, p.1 ≠ a) : Inv X pins σ (upd H a (ExK cls a)) s where
  ok := I.ok
  os := I.os
  bare := I.bare
  base := ⟨I.base.keep, I.base.slot, fun b o e n hx => by
      have hb : b ≠ a := fun z => by
        rw [z, old] at e
        cases e
      rw [upd_ne hb]
      exact I.base.free b o e n hx, I.base.there, fun b xs e => by
      have q := I.base.tups b xs e
      rw [upd_ne (ne_of_none q na)]
      exact q, fun b o u e => by
      have q := I.base.frzs b o u e
      rw [upd_ne (ne_of_none q na)]
      exact q, fun b ps e => by
      obtain ⟨more, q⟩ := I.base.tbls b ps e
      exact ⟨more, by rw [upd_ne (ne_of_none q na)]; exact q⟩⟩
  loc := I.loc
  cell := I.cell
  free := by
    rw [upd_ne (Ne.symm nL)]
    exact I.free
  freeC := fun x c e => by
    have hc : c ≠ a := fun z => by
      obtain ⟨v, u, hu, hd⟩ := I.cell x c e
      obtain ⟨o, ho, _, vs, hv⟩ := hE
      rw [z] at hu
      have eo : u = o := Option.some.inj (hu.symm.trans ho)
      rw [eo, hv] at hd
      cases hd
    rw [upd_ne hc]
    exact I.freeC x c e
  pin := fun p hp => by
    obtain ⟨h1, h2, h3⟩ := I.pin p hp
    exact ⟨h1, by rw [upd_ne (np p hp)]; exact h2, h3⟩
  hok := fun b u e => by
    by_cases hb : b = a
    · subst hb
      rw [upd_same] at e
      cases e
      obtain ⟨o, ho, hz, hv⟩ := hE
      exact ⟨⟨o, ho, hz, hv⟩, ⟨o, ho⟩, fun h1 h2 ⟨o1, e1, r⟩ k => ⟨o1, k o1 e1, r⟩⟩
    · rw [upd_ne hb] at e
      exact (I.hok b u e).stay (fun _ _ _ q => q) (fun c q => by rw [upd_ne (ne_of_none q na)]; exact q) fun c xs q => by rw [upd_ne (ne_of_none q na)]; exact q
  len := I.len
/-- what is wished of an error in the body: the clause takes it, and it is kept -/
def wKept (K : PySem.W.Frag) (c : Value) (i j : Nat) (D : Ends) : WX := fun cls d σ H => d = none ∧ PySem.W.exmOne K cls c = some true ∧
  ∀ a, H a = none → D.nx (((σ.set i (some (.ref a))).set j (some (.ref a))).set i none) (upd H a (ExK cls a))
section
variable {X : Cx} {x n m : Str} {c : Value} {i j : Nat} {body : List Stmt} {np p1 p2 p3 pos pos' : Pos} {tb : WX → TS}
theorem ps_kept (hs : X.stack = X.env :: X.outer) (hf : X.env.frame = some X.env.locals) (hx : X.ex = []) (hN : X.N.Nodup) (hi : X.N[i]? = some n) (hj : X.N[j]? = some m) (ln : X.env.kindOf n = some .local) (lm : X.env.kindOf m = some .local)
    (hlen : i < X.N.length) (hdb : (n == ("__debug__" : Str)) = false) (hcd : (n == ("__classdict__" : Str)) = false) (hsw : ∀ E : Env, swapsWith (.Name n p2) (some (.Name m p1)) p3.line E = pure false) (hc : Names X x c)
    (hb : ∀ (W : WX) (pn : List (Addr × Obj)) (xe : Value → Shared → Prop), Takes (X.tr pn xe) W → PassesOwn (model X.prog X.w) X.A X.env xe → PSs (X.tr pn xe) body (tb W)) :
    PS X (.Try body [.ExceptHandler (some (.Name x np)) (some n) [.Assign [.Name m p1] (.Name n p2) p3] pos'] [] [] pos) (fun D σ H => tb (wKept X.K c i j D) D σ H) := by
  constructor
  intro pins s σ H D I h
  have ok := I.ok
  have hfr : X.A.frames = some (X.env :: X.outer) := by rw [ok.frames, hs]
  have hF : frs X.stack = X.env.locals :: X.fs := by
    rw [hs]
    show (X.env :: X.outer).filterMap (·.frame) = _
    rw [List.filterMap_cons, hf]
    rfl
  refine wpAny_Try_except (wpAny_mono ((hb (wKept X.K c i j D) (X.pn ++ pins) (fun e s₁ => wpAny (model X.prog X.w) X.A (noteFrame e X.env) (fun _ s₂ => wpAny (model X.prog X.w) X.A (setFlight e none) (fun _ s₃ =>
    wpAny (model X.prog X.w) X.A (handleBy e X.env [.ExceptHandler (some (.Name x np)) (some n) [.Assign [.Name m p1] (.Name n p2) p3] pos']) (SP X pins D) X.xe s₃) X.xe s₂) X.xe s₁) (fun u s' air => ?_) PassesOwn.looking).run [] s σ H D (I.toTry _) h) (fun f s1 out => ?_) (fun _ _ z => z))
  · obtain ⟨a, B, sI, pins', τ, G, cls, d, rfl, J', nb, up, sky, na, os, ag, rfl, yes, q⟩ := air
    have J : Inv X pins τ G sI := J'.ofTry ok
    rw [hs] at sky
    refine Sky.land Zc.steady hfr hf sky fun h3 fl up3 => ?_
    have gone : B.get? a = none := fl.2.1
    have was : ∀ b o, sI.heap.get? b = some o → b ∉ frs X.stack → b ≠ a := fun b o e hb z => by
      have := nb b o e hb
      rw [z, gone] at this
      cases this
    have apart : ∀ {g : Heap}, HandSPX.FlyingZ B (X.env :: X.outer) a (Zc cls none) g → ErrAt cls a g ∧ a ∉ frs X.stack := fun {g} z => by
      obtain ⟨oe, vs, he, hz, hd⟩ := z.there
      refine ⟨⟨oe, he, hz, vs, hd⟩, fun hm => ?_⟩
      rw [hs] at hm
      obtain ⟨_, o', e', nf⟩ := z.2.2.1.mem hm
      rw [he] at e'
      cases e'
      exact nf _ hd
    obtain ⟨⟨o3, g3, z3, d3⟩, out3⟩ := apart fl
    have nL : a ≠ X.env.locals := fun z => out3 (by rw [hF, z]; exact List.mem_cons_self)
    have nF : a ∉ X.fs := fun z => out3 (by rw [hF]; exact List.mem_cons_of_mem _ z)
    have old : X.s_0.heap.get? a = none := by
      cases e : X.s_0.heap.get? a with
      | none => rfl
      | some o =>
        obtain ⟨o', e'⟩ := J.base.there a o e (by rw [hx]; intro z; cases z)
        exact (was a o' e' out3 rfl).elim
    have npin : ∀ p ∈ X.pn ++ pins, p.1 ≠ a := fun p hp => by
      obtain ⟨e, _, r1, r2, _⟩ := J.pin p hp
      exact was p.1 p.2 e fun z => by
        rw [hF] at z
        rcases List.mem_cons.mp z with z | z
        · exact r1 z
        · exact r2 z
    obtain ⟨v3, d3⟩ := d3
    have S3 := (J.landed (s' := { s' with heap := h3 }) nb fl.1 (up.trans up3) os ag).suite g3 d3 na nL nF
    refine wpAny_handleBy_cons (codeAny_handlers_test ?_) (by intro q; cases q)
    have ask := PySem.W.exm_one (M := model X.prog X.w) S3.kIn (fun A Q E s k q => wpAny_typeOf_ref (k _ _ g3) (by rw [z3.1]; exact q)) yes
    have named : ∀ {Q : Value → Shared → Prop} {E : Value → Shared → Prop}, Q c { s' with heap := h3 } → wpAny (model X.prog X.w) (X.A.mark (some (.ref a))) (eval (.Name x np) X.env) Q E { s' with heap := h3 } := fun {Q E} r => by
      obtain ⟨hg, hd, k⟩ := hc
      rcases k with k | ⟨k, kv, kn⟩
      · exact ld_glob (X := X.suite a ((a, o3) :: (X.pn ++ pins))) S3 hg k r hd
      · exact ld_blt (X := X.suite a ((a, o3) :: (X.pn ++ pins))) S3 hg k kv r kn hd
    refine named (ask.here (codeAny_handlers_suite_as (HandSPX.lands_againZ fl fun h4 fl4 up4 => ?_)))
    obtain ⟨⟨o4, g4, z4, v4, d4⟩, _⟩ := apart fl4
    have S4 := (J.landed (s' := { s' with heap := h4 }) nb fl4.1 ((up.trans up3).trans up4) os ag).suite g4 d4 na nL nF
    refine store_ok (X := X.suite a ((a, o4) :: (X.pn ++ pins))) (v := .ref a) S4 hN hi (Or.inl ln) rfl (fun s5 S5 => ?_) (.inr ln)
    have li : i < τ.length := by
      rw [J.len]
      exact hlen
    have keep : PSs (X.suite a ((a, o4) :: (X.pn ++ pins))) [.Assign [.Name m p1] (.Name n p2) p3] (tAsg (tVar i) (gName j)) := pss_one (ps_set (X := X.suite a ((a, o4) :: (X.pn ++ pins))) hN hj (Or.inl lm) (pv i hi (Or.inl ln) hdb hcd) (hsw _) (.inr lm))
    refine wpAny_mono (keep.run [] s5 _ G ⟨fun τ' G' => τ' = (τ.set i (some (.ref a))).set j (some (.ref a)) ∧ G' = G, fun _ _ => False, fun _ _ => False, fun _ _ => False⟩ S5 ⟨.ref a, List.getElem?_set_self li, rfl, rfl⟩) (fun f s6 z => ?_) (fun _ _ z => z.elim)
    cases f with
    | next =>
      obtain ⟨_, _, S6, rfl, rfl⟩ := z
      obtain ⟨g6, n6, _⟩ := S6.pin (a, o4) (List.mem_append.mpr (.inl List.mem_cons_self))
      refine gone_ok (track (S6.unsuite ok) ⟨o4, g6, z4, v4, d4⟩ n6 old nL npin) hN hi ln fun s7 I7 => ⟨_, _, I7, q a na⟩
    | ret u =>
      obtain ⟨_, _, _, _, _, z⟩ := z
      exact z.elim
    | brk =>
      obtain ⟨_, _, _, z⟩ := z
      exact z.elim
    | cont =>
      obtain ⟨_, _, _, z⟩ := z
      exact z.elim
  · cases f with
    | next =>
      obtain ⟨τ, G, J, q⟩ := out
      exact wpAny_execs_nil ⟨τ, G, J.ofTry ok, q⟩
    | ret u =>
      obtain ⟨v, τ, G, J, r, q⟩ := out
      exact ⟨v, τ, G, J.ofTry ok, r, q⟩
    | brk =>
      obtain ⟨τ, G, J, q⟩ := out
      exact ⟨τ, G, J.ofTry ok, q⟩
    | cont =>
      obtain ⟨τ, G, J, q⟩ := out
      exact ⟨τ, G, J.ofTry ok, q⟩
end
/-! ### a statement behind which several ways meet -/
def tMid (t : TS) : TS := fun D σ H => ∃ M : L2.St → Hp → Prop, t { D with nx := M } σ H ∧ ∀ σ' H', M σ' H' → D.nx σ' H'
theorem ps_mid {X : Cx} {st : Stmt} {t : TS} (h : PS X st t) : PS X st (tMid t) := by
  constructor
  intro pins s σ H D I ⟨M, h1, h2⟩
  refine wpAny_mono (h.run pins s σ H { D with nx := M } I h1) (fun f s1 q => ?_) (fun _ _ z => z)
  cases f with
  | next =>
    obtain ⟨σ', H', I', q⟩ := q
    exact ⟨σ', H', I', h2 _ _ q⟩
  | ret u => exact q
  | brk => exact q
  | cont => exact q
/-! ### isinstance of a kept error -/
def rIsX (K : PySem.W.Frag) : List V → Hp → VK → Prop := fun xs H Q => ∃ (a D : Addr) (c : V) (cv : Value) (b : Bool), xs = [.ref a, c] ∧ H a = some (ExK (.ref D) a) ∧ ExcC K D ∧ ClsV c cv ∧ PySem.W.kitOne K (.ref D) cv = some b ∧ Q (.bl b) H
theorem errAt_inst {h : Heap} {a D : Addr} (e : ErrAt (.ref D) a h) : ∃ o, PySem.W.InstAt h a o D none := by
  obtain ⟨⟨oc, od, oda, osl⟩, ho, ⟨h1, h2⟩, vs, hv⟩ := e
  dsimp only at h1 h2 hv
  subst h1 h2 hv
  exact ⟨_, ho, rfl, rfl, trivial⟩
theorem call_isX {X : Cx} : CallR X (.builtin "isinstance") (rIsX X.K) := by
  intro pins s σ H xs us Q I r h
  obtain ⟨a, D, c, cv, b, rfl, ha, C, k, e, q⟩ := h
  obtain ⟨u1, u2, rfl, r1, r2⟩ := vals2 r
  cases (show u1 = Value.ref a from r1)
  have e2 := k.eq r2
  subst e2
  obtain ⟨o, J⟩ := errAt_inst (show ErrAt (.ref D) a s.heap from (I.hok a _ ha).1)
  exact PySem.W.kia_one (PySem.W.handS_kitx_exc C.hg C.hk C.hs C.hd C.ha C.hn C.ht C.hm) I.kIn J e (fun z => nomatch z) fun tk => ⟨.bl b, H, I.tok tk, rfl, q⟩
/-! ### how often True stands in a list of bools -/
def rCntB (K : PySem.W.Frag) : V → List V → Hp → VK → Prop := fun x xs H Q => ∃ (p : Addr) (bs : List Bool), x = .ref p ∧ xs = [.bl true] ∧ SqL K H p (bs.map V.bl) ∧ Q (.int (countIn (.bool true) (bs.map PyData.bool))) H
theorem reads_bools {h : Heap} : ∀ {bs : List Bool} {us : List Value}, Vals (bs.map V.bl) us → ∃ as, ReadsAll h us (bs.map PyData.bool) as
  | [], _, r => by
    have r' : Vals [] _ := r
    cases r'
    exact ⟨_, ReadsAll.nil⟩
  | b :: bs, _, r => by
    have r' : Vals (V.bl b :: bs.map V.bl) _ := r
    cases r' with
    | cons r1 r2 =>
      obtain ⟨as, q⟩ := reads_bools (h := h) r2
      cases r1
      exact ⟨_, ReadsAll.cons (Reads.bool b) q⟩
theorem mt_cntB {X : Cx} : MtR X "list.count" (rCntB X.K) := by
  intro pins s σ H x xs v us Q I rx rxs h
  obtain ⟨p, bs, rfl, rfl, hs, q⟩ := h
  cases rx
  obtain ⟨u, rfl, ru⟩ := rxs.one
  cases (show u = Value.bool true from ru)
  obtain ⟨its, rv, hl, hlen⟩ := I.list hs
  obtain ⟨as, ra⟩ := reads_bools (h := s.heap) rv
  refine PyProof.Rows.count_list_bools hl.isList ra (List.all_eq_true.mpr fun d hd => ?_) ⟨.int _, H, I.tok _, ⟨_, rfl⟩, q⟩
  obtain ⟨b, _, e⟩ := List.mem_map.mp hd
  rw [← e]
  rfl
section
variable {P : Program} {w : World} {K : PySem.W.Frag} {mg : Str → Option Value} {base : Heap}
/-! ### the script's numbers -/
def spLCell (K : PySem.W.Frag) : Sp := fun vs H Q _ => ∃ (a : Addr) (ns : List Int) (k : Int), vs = [.ref a, .int k] ∧ SqL K H a (ns.map V.int) ∧ 0 ≤ k ∧ ∀ z : Int, Q (.int z) H
theorem scLCell : FnScope ["_law_script", "_law_k"] ["_law_script", "_law_k"] (defScope s_l_cell) := ⟨rfl, rfl, rfl, by decide +kernel, rfl, by decide +kernel, by decide +kernel⟩
theorem atI_nat {xs : List V} {j : Nat} {v : V} (h : xs[j]? = some v) : atI xs ((j : Nat) : Int) = some v := by
  have hj := (List.getElem?_eq_some_iff.mp h).1
  have e : ixN xs.length ((j : Nat) : Int) = some j := by
    unfold ixN
    rw [if_pos (by omega), if_pos (by omega)]
    all_goals rfl
  unfold atI
  rw [e]
  exact h
theorem atI_in {xs : List V} {i : Int} (h0 : 0 ≤ i) (h1 : i < (xs.length : Nat)) : ∃ v ∈ xs, atI xs i = some v := by
  obtain ⟨j, rfl⟩ := Int.eq_ofNat_of_zero_le h0
  have hj : j < xs.length := by omega
  exact ⟨xs[j], List.getElem_mem hj, atI_nat (List.getElem?_eq_getElem hj)⟩
theorem atI_ints {ns : List Int} {i : Int} (h0 : 0 ≤ i) (h1 : i < ((ns.map V.int).length : Nat)) : ∃ z, atI (ns.map V.int) i = some (.int z) := by
  obtain ⟨v, hv, e⟩ := atI_in h0 h1
  obtain ⟨z, _, rfl⟩ := List.mem_map.mp hv
  exact ⟨z, e⟩
theorem w_l_cell (T : Tx K mg) : Fn P w K mg base CX0 1 "_law_cell" ["_law_script", "_law_k"] (spLCell K) := by
  refine ⟨ok0 T.f_l_cell scLCell (fun _ _ _ _ _ _ us hl => match us, hl with | [_, _], _ => rfl) (fun vs H Q E h => ?_) (fun cdv A outer s H vs Q E hr h => ?_), T.g_l_cell, ?_⟩
  · obtain ⟨a, ns, k, rfl, _⟩ := h
    rfl
  · obtain ⟨a, ns, k, rfl, hs, hk, q⟩ := h
    refine ⟨_, pss_cons (ps_if (pt_truth (pv 0) (by intro _; rfl)) (pss_one (ps_ret (pe_ix ix_seq (pv 0) (pe_op op_mod (pv 1) (pe_callB call_len (by rfl) T.z_len boot_len (pa_cons (pv 0) pa_nil))) fun _ _ => rfl))) pss_nil) (pss_one (ps_ret pe_int)), ?_⟩
    refine ⟨_, rfl, _, .inl ⟨_, hs, rfl⟩, ?_⟩
    cases ns with
    | nil => exact q 0
    | cons n ns =>
      refine iteT ⟨_, rfl, _, rfl, _, rfl, _, _, rfl, .inl ⟨_, hs, rfl⟩, _, _, rfl, rfl, ?_, ?_⟩
      · show (0 : Int) < (((n :: ns).map V.int).length : Nat)
        rw [List.length_map, List.length_cons]
        omega
      · have hm := Int.emod_nonneg k (b := (((n :: ns).map V.int).length : Nat)) (by rw [List.length_map, List.length_cons]; omega)
        have hm2 := Int.emod_lt_of_pos k (b := (((n :: ns).map V.int).length : Nat)) (by rw [List.length_map, List.length_cons]; omega)
        obtain ⟨z, hz⟩ := atI_ints (ns := n :: ns) hm hm2
        exact .inl ⟨_, _, _, _, rfl, rfl, hs, hz, q z⟩
  · obtain ⟨fd, F⟩ := T.f_l_cell
    exact F.kp
theorem pos_lit {j : Int} (h : 0 < j) : 0 < j := h
/-- a number of the law's -/
def spMix (K : PySem.W.Frag) : Sp := fun vs H Q _ => ∃ (a : Addr) (ns : List Int) (k : Int), vs = [.ref a, .int k] ∧ SqL K H a (ns.map V.int) ∧ 0 ≤ k ∧ ∀ z : Int, 0 ≤ z → z < 4294967231 → Q (.int z) H
theorem scMix : FnScope ["_law_script", "_law_k", "_law_number"] ["_law_script", "_law_k"] (defScope s_l_mix) := ⟨rfl, rfl, rfl, by decide +kernel, rfl, by decide +kernel, by decide +kernel⟩
theorem w_l_mix (T : Tx K mg) : Fn P w K mg base CX0 2 "_law_mix" ["_law_script", "_law_k"] (spMix K) := by
  refine ⟨ok0 T.f_l_mix scMix (fun _ _ _ _ _ _ us hl => match us, hl with | [_, _], _ => rfl) (fun vs H Q E h => ?_) (fun cdv A outer s H vs Q E hr h => ?_), T.g_l_mix, ?_⟩
  · obtain ⟨a, ns, k, rfl, _⟩ := h
    rfl
  · obtain ⟨a, ns, k, rfl, hs, hk, q⟩ := h
    have GC : Fn P w K mg base CX0 1 "_law_cell" ["_law_script", "_law_k"] (spLCell K) := w_l_cell T
    refine ⟨_, pss_cons (ps_set (i := 2) scMix.nd rfl (Or.inl rfl) (pe_op op_mod (pe_op op_add (pe_fn GC hr rfl pass0 (pa_cons (pv 0) (pa_cons (pv 1) pa_nil))) (pe_op op_mul pe_int (pe_op op_add (pv 1) pe_int))) pe_int))
      (pss_cons (ps_set (i := 2) scMix.nd rfl (Or.inl rfl) (pe_op op_mod (pe_op op_mul (pv 2) pe_int) pe_int))
      (pss_one (ps_ret (pe_op op_mod (pe_op op_add (pe_op op_mul (pe_op op_fdiv (pv 2) pe_int) pe_int) (pv 2)) pe_int)))), ?_⟩
    refine ⟨_, rfl, _, rfl, a, ns, k, rfl, hs, hk, fun z => ?_⟩
    refine ⟨_, rfl, _, _, rfl, rfl, _, _, rfl, rfl, .inl ⟨by decide, by decide⟩, _, _, rfl, rfl, _, _, rfl, rfl, pos_lit (by decide), ?_⟩
    refine ⟨_, rfl, _, _, rfl, rfl, .inr ⟨by decide, by decide⟩, _, _, rfl, rfl, pos_lit (by decide), ?_⟩
    refine ⟨_, rfl, _, _, rfl, rfl, ⟨by decide, by decide⟩, _, _, rfl, rfl, .inr ⟨by decide, by decide⟩, _, rfl, _, _, rfl, rfl, _, _, rfl, rfl, pos_lit (by decide), ?_⟩
    exact q _ (Int.emod_nonneg _ (by decide)) (Int.emod_lt_of_pos _ (by decide))
  · obtain ⟨fd, F⟩ := T.f_l_mix
    exact F.kp
theorem same_seqL {H H' : Hp} {a : Addr} {xs : List V} (e : L2.Same H H') (h : SqL K H a xs) : SqL K H' a xs := by
  rcases h with (h | ⟨o, h⟩) | h
  · exact .inl (.inl (e _ _ h))
  · exact .inl (.inr ⟨o, e _ _ h⟩)
  · exact .inr h
theorem same_free {H H' : Hp} {p : Addr} (e : L2.Same H H') (h : H' p = none) : H p = none := by
  cases q : H p with
  | none => rfl
  | some o =>
    rw [e p o q] at h
    cases h
theorem tdm {i : Nat} {σ : L2.St} {H : Hp} {Q : VK} {n d m : Int} (h : σ[i]? = some (some (V.int n))) (hd : CDiv n d) (hm : 0 < m) (q : Q (.int (n / d % m)) H) :
    tOp (rI (fun _ j => 0 < j) fun i j => .int (i % j)) (tOp (rI CDiv fun i j => .int (i / j)) (tVar i) (tC (.int d))) (tC (.int m)) σ H Q := ⟨_, h, _, _, rfl, rfl, hd, _, _, rfl, rfl, hm, q⟩
/-- a price of the law's -/
def spLPrice (K : PySem.W.Frag) : Sp := fun vs H Q _ => ∃ (a : Addr) (ns : List Int) (k : Int), vs = [.ref a, .int k] ∧ SqL K H a (ns.map V.int) ∧ 0 ≤ k ∧ ∀ (z : Int) H', L2.Same H H' → Q (.int z) H'
theorem scLPrice : FnScope ["_law_script", "_law_k", "_law_number", "_law_base"] ["_law_script", "_law_k"] (defScope s_l_price) := ⟨rfl, rfl, rfl, by decide +kernel, rfl, by decide +kernel, by decide +kernel⟩
theorem w_l_price (T : Tx K mg) : Fn P w K mg base CX0 3 "_law_price" ["_law_script", "_law_k"] (spLPrice K) := by
  refine ⟨ok0 T.f_l_price scLPrice (fun _ _ _ _ _ _ us hl => match us, hl with | [_, _], _ => rfl) (fun vs H Q E h => ?_) (fun cdv A outer s H vs Q E hr h => ?_), T.g_l_price, ?_⟩
  · obtain ⟨a, ns, k, rfl, _⟩ := h
    rfl
  · obtain ⟨a, ns, k, rfl, hs, hk, q⟩ := h
    have GM : Fn P w K mg base CX0 2 "_law_mix" ["_law_script", "_law_k"] (spMix K) := w_l_mix T
    refine ⟨_, pss_cons (ps_set (i := 2) scLPrice.nd rfl (Or.inl rfl) (pe_fn GM hr rfl pass0 (pa_cons (pv 0) (pa_cons (pv 1) pa_nil))))
      (pss_cons (ps_set (i := 3) scLPrice.nd rfl (Or.inl rfl) (pe_op op_add pe_int (pe_op op_mod (pe_fn GM hr rfl pass0 (pa_cons (pv 0) (pa_cons pe_int pa_nil))) pe_int)))
      (pss_one (ps_ret (pe_ix ix_seq (pe_lst (pa_cons (pe_op op_add (pv 3) (pe_op op_mod (pe_op op_fdiv (pv 2) pe_int) pe_int)) (pa_cons (pe_op op_add (pv 3) (pe_op op_mod (pe_op op_fdiv (pv 2) pe_int) pe_int)) (pa_cons (pv 3) (pa_cons pe_int (pa_cons pe_int (pa_cons (pe_op op_add (pv 3) (pe_op op_mod (pe_op op_fdiv (pv 2) pe_int) pe_int)) pa_nil)))))))
        (pe_op op_mod (pv 2) pe_int) fun _ _ => rfl)))), ?_⟩
    refine ⟨_, rfl, _, rfl, a, ns, k, rfl, hs, hk, fun n h0 h1 => ?_⟩
    refine ⟨_, rfl, a, ns, 3, rfl, hs, by decide, fun z _ _ => ?_⟩
    refine ⟨_, _, rfl, rfl, pos_lit (by decide), _, _, rfl, rfl, ?_⟩
    refine ⟨_, rfl, _, rfl, _, _, rfl, rfl, ⟨by decide, by decide⟩, _, _, rfl, rfl, pos_lit (by decide), _, _, rfl, rfl, ?_⟩
    refine ⟨_, rfl, _, rfl, _, _, rfl, rfl, ⟨by decide, by decide⟩, _, _, rfl, rfl, pos_lit (by decide), _, _, rfl, rfl, ?_⟩
    refine ⟨_, rfl, _, rfl, _, rfl, _, _, rfl, rfl, ⟨by decide, by decide⟩, _, _, rfl, rfl, pos_lit (by decide), _, _, rfl, rfl, ?_⟩
    refine ⟨by show 6 ≤ sizeLine; decide, fun p hp => ⟨_, rfl, _, _, rfl, rfl, pos_lit (by decide), ?_⟩⟩
    obtain ⟨y, hy⟩ := atI_ints (ns := [1 + z % 999999980 + n / 8 % 6, 1 + z % 999999980 + n / 8 % 6, 1 + z % 999999980, 1, 1000000000, 1 + z % 999999980 + n / 8 % 15]) (Int.emod_nonneg n (b := 6) (by decide)) (Int.emod_lt_of_pos n (b := 6) (by decide))
    exact .inl ⟨_, _, _, _, rfl, rfl, .inl (.inl upd_same), hy, q y _ (same_new hp)⟩
  · obtain ⟨fd, F⟩ := T.f_l_price
    exact F.kp
theorem kd_seqL {d : Addr} {H H' : Hp} {a : Addr} {xs : List V} (k : Kd d H H') (hd : ∃ kvs, H d = some (.dK kvs)) (h : SqL K H a xs) : SqL K H' a xs := by
  obtain ⟨kvs, e⟩ := hd
  rcases h with (h | ⟨o, h⟩) | h
  · exact .inl (.inl (k a _ h rfl (ne_of h e (by intro z; cases z))))
  · exact .inl (.inr ⟨o, k a _ h rfl (ne_of h e (by intro z; cases z))⟩)
  · exact .inr h
/-- a law: over every base -/
theorem okL {x q : Str} {st : Stmt} {N ps : List Str} {k : Nat} {sp : Sp} {f : Addr} (F : FD K x q st f) (S : FnScope N ps (defScope st)) (hb : BindsAll x q st ps) (len : ∀ vs H Q E, sp vs H Q E → vs.length = ps.length)
    (hbody : ∀ (base : Heap) (cdv : Value) (A : Around) (outer : List Env) (s : Shared) (H : Hp) (vs : List V) (Q : VK) (E : XK), Room k (A.deeper (envOfC q (defScope st) s.heap.objs.size f cdv)) → sp vs H Q E →
      ∃ t, PSs (cxOf CX0 P w K mg base N q (defScope st) f cdv A outer s H E).nox (defBody st) t ∧ t { nx := fun _ H' => Q .non H', rt := Q } (start N vs) H) :
    ∃ fd, Binds K fd ps [] ∧ FunD K x q (defArgs st) (defBody st) (defScope st) [] [] f fd ∧ ∀ base, FnOk P w K mg base CX0 (k + 1) f fd ps sp := by
  obtain ⟨fd, G⟩ := F
  refine ⟨fd, FunD.bindsN G hb, G, fun base => FunD.ok (CX := CX0) G S len (fun cdv A outer s H vs Q E hr hsp => ?_)⟩
  obtain ⟨t, h, q⟩ := hbody base cdv A outer s H vs Q E hr hsp
  exact ⟨t, h.nox, q⟩
/-- what every law promises -/
def spLaw (K : PySem.W.Frag) : Sp := fun vs H Q _ => ∃ (a : Addr) (ns : List Int), vs = [.ref a] ∧ ns.length ≤ 63 ∧ SqL K H a (ns.map V.int) ∧ ∀ H', Q (.bl true) H'
/-! ### the law's deeds -/
inductive Deed where
  | place (owner : Int) (buy : Bool) (price : Option Int) (many : Int) (shows : Option Int) (way : Way)
  | cancel (n : Int) | change (n m : Int) | call | uncross
def Deed.At : Deed → List V → Prop
  | .place o b p m s y, xs => xs = [.str "place", .int o, .str (sideStr b), optV p, .int m, optV s, .str y.str]
  | .cancel n, xs => ∃ m, xs = [.str "cancel", .int n, .int m]
  | .change n m, xs => xs = [.str "change", .int n, .int m]
  | .call, xs => ∃ l, xs = .str "call" :: l
  | .uncross, xs => ∃ l, xs = .str "uncross" :: l
def spLDeed (K : PySem.W.Frag) : Sp := fun vs H Q _ => ∃ (a : Addr) (ns : List Int) (k : Int), vs = [.ref a, .int k] ∧ SqL K H a (ns.map V.int) ∧ 0 ≤ k ∧
  ∀ (dd : Deed) (xs : List V) t H', L2.Same H H' → dd.At xs → H t = none → H' t = some (.tup xs) → Q (.ref t) H'
theorem scLDeed : FnScope ["_law_script", "_law_k", "_law_number", "_law_word", "_law_many", "_law_way", "_law_price_here", "_law_shows"] ["_law_script", "_law_k"] (defScope s_l_deed) := ⟨rfl, rfl, rfl, by decide +kernel, rfl, by decide +kernel, by decide +kernel⟩
theorem at_words {n : Int} : ∃ wd : Str, atI [V.str "place", V.str "place", V.str "place", V.str "place", V.str "place", V.str "place", V.str "cancel", V.str "change", V.str "call", V.str "uncross"] (n % 10) = some (V.str wd) ∧
    (wd = "place" ∨ wd = "cancel" ∨ wd = "change" ∨ wd = "call" ∨ wd = "uncross") := by
  obtain ⟨v, hv, e⟩ := atI_in (xs := [V.str "place", V.str "place", V.str "place", V.str "place", V.str "place", V.str "place", V.str "cancel", V.str "change", V.str "call", V.str "uncross"]) (Int.emod_nonneg n (b := 10) (by decide)) (Int.emod_lt_of_pos n (b := 10) (by decide))
  rw [e]
  simp only [List.mem_cons, List.not_mem_nil, or_false] at hv
  rcases hv with e | e | e | e | e | e | e | e | e | e <;> rw [e] <;> exact ⟨_, rfl, by decide⟩
theorem at_ways {i : Int} (h0 : 0 ≤ i) (h1 : i < 5) : ∃ wy : Way, atI [V.str "rest", V.str "rest", V.str "rest", V.str "now", V.str "whole"] i = some (V.str wy.str) := by
  obtain ⟨v, hv, e⟩ := atI_in (xs := [V.str "rest", V.str "rest", V.str "rest", V.str "now", V.str "whole"]) h0 h1
  rw [e]
  simp only [List.mem_cons, List.not_mem_nil, or_false] at hv
  rcases hv with e | e | e | e | e <;> rw [e]
  · exact ⟨.rest, rfl⟩
  · exact ⟨.rest, rfl⟩
  · exact ⟨.rest, rfl⟩
  · exact ⟨.now, rfl⟩
  · exact ⟨.whole, rfl⟩
theorem at_sides {i : Int} (h0 : 0 ≤ i) (h1 : i < 2) : ∃ b : Bool, atI [V.str "buy", V.str "sell"] i = some (V.str (sideStr b)) := by
  obtain ⟨v, hv, e⟩ := atI_in (xs := [V.str "buy", V.str "sell"]) h0 h1
  rw [e]
  simp only [List.mem_cons, List.not_mem_nil, or_false] at hv
  rcases hv with e | e <;> rw [e]
  · exact ⟨true, rfl⟩
  · exact ⟨false, rfl⟩
theorem w_l_deed (T : Tx K mg) : Fn P w K mg base CX0 4 "_law_deed" ["_law_script", "_law_k"] (spLDeed K) := by
  refine ⟨ok0 T.f_l_deed scLDeed (fun _ _ _ _ _ _ us hl => match us, hl with | [_, _], _ => rfl) (fun vs H Q E h => ?_) (fun cdv A outer s H vs Q E hr h => ?_), T.g_l_deed, ?_⟩
  · obtain ⟨a, ns, k, rfl, _⟩ := h
    rfl
  · obtain ⟨a, ns, k, rfl, hs, hk, q⟩ := h
    have GM : Fn P w K mg base CX0 2 "_law_mix" ["_law_script", "_law_k"] (spMix K) := w_l_mix T
    have GP : Fn P w K mg base CX0 3 "_law_price" ["_law_script", "_law_k"] (spLPrice K) := w_l_price T
    have hr1 := hr.mono (j := 2) (by decide)
    refine ⟨_, pss_cons (ps_set (i := 2) scLDeed.nd rfl (Or.inl rfl) (pe_fn GM hr1 rfl pass0 (pa_cons (pv 0) (pa_cons (pv 1) pa_nil))))
      (pss_cons (ps_set (i := 3) scLDeed.nd rfl (Or.inl rfl) (pe_ix ix_seq (pe_lst (pa_cons pe_str (pa_cons pe_str (pa_cons pe_str (pa_cons pe_str (pa_cons pe_str (pa_cons pe_str (pa_cons pe_str (pa_cons pe_str (pa_cons pe_str (pa_cons pe_str pa_nil))))))))))) (pe_op op_mod (pv 2) pe_int) fun _ _ => rfl))
      (pss_cons (ps_if (pt_cmpR op_ne (pv 3) pe_str (nomark _)) (pss_one (ps_ret (pe_tup (pa_cons (pv 3) (pa_cons (pe_op op_mod (pe_op op_fdiv (pv 2) pe_int) pe_int)
        (pa_cons (pe_ix ix_seq (pe_lst (pa_cons (pe_op op_mod (pe_op op_fdiv (pv 2) pe_int) pe_int) (pa_cons pe_int pa_nil))) (pe_op op_fdiv (pe_op op_mod (pe_op op_fdiv (pv 2) pe_int) pe_int) pe_int) fun _ _ => rfl) pa_nil)))))) pss_nil)
      (pss_cons (ps_set (i := 4) scLDeed.nd rfl (Or.inl rfl) (pe_op op_add pe_int (pe_op op_mod (pe_fn GM hr1 rfl pass0 (pa_cons (pv 0) (pa_cons (pe_op op_add (pv 1) pe_int) pa_nil))) pe_int)))
      (pss_cons (ps_set (i := 5) scLDeed.nd rfl (Or.inl rfl) (pe_ix ix_seq (pe_lst (pa_cons pe_str (pa_cons pe_str (pa_cons pe_str (pa_cons pe_str (pa_cons pe_str pa_nil)))))) (pe_op op_mod (pe_op op_fdiv (pv 2) pe_int) pe_int) fun _ _ => rfl))
      (pss_cons (ps_set (i := 6) scLDeed.nd rfl (Or.inl rfl) (pe_fn GP hr rfl pass0 (pa_cons (pv 0) (pa_cons (pe_op op_add (pv 1) pe_int) pa_nil))))
      (pss_cons (ps_set (i := 7) scLDeed.nd rfl (Or.inl rfl) pe_non)
      (pss_cons (ps_mid (ps_if (PW.pt (pw_and (pt_cmpR op_eq (pv 5) pe_str (nomark _)) (pw_and1 (pt_cmpR op_eq (pe_op op_mod (pe_op op_fdiv (pv 2) pe_int) pe_int) pe_int (nomark _)))))
          (pss_one (ps_set (i := 7) scLDeed.nd rfl (Or.inl rfl) (pe_op op_add pe_int (pe_op op_mod (pe_op op_fdiv (pv 2) pe_int) (pv 4)))))
          (pss_one (ps_if (pt_cmpR op_eq (pe_op op_mod (pe_op op_fdiv (pv 2) pe_int) pe_int) pe_int (nomark _))
            (pss_one (ps_set (i := 4) scLDeed.nd rfl (Or.inl rfl) (pe_ix ix_seq (pe_lst (pa_cons pe_int (pa_cons pe_int (pa_cons pe_int pa_nil)))) (pe_op op_mod (pe_op op_fdiv (pv 2) pe_int) pe_int) fun _ _ => rfl))) pss_nil))))
      (pss_cons (ps_mid (ps_if (PW.pt (pw_and (pt_cmpR op_ne (pv 5) pe_str (nomark _)) (pw_and1 (pt_cmpR op_eq (pe_op op_mod (pe_op op_fdiv (pv 2) pe_int) pe_int) pe_int (nomark _)))))
          (pss_one (ps_set (i := 6) scLDeed.nd rfl (Or.inl rfl) pe_non)) pss_nil))
      (pss_cons (ps_mid (ps_if (pt_cmpR op_eq (pe_op op_mod (pe_op op_fdiv (pv 2) pe_int) pe_int) pe_int (nomark _)) (pss_one (ps_set (i := 6) scLDeed.nd rfl (Or.inl rfl) pe_int)) pss_nil))
      (pss_one (ps_ret (pe_tup (pa_cons (pv 3) (pa_cons (pe_op op_mod (pe_op op_fdiv (pv 2) pe_int) pe_int)
        (pa_cons (pe_ix ix_seq (pe_lst (pa_cons pe_str (pa_cons pe_str pa_nil))) (pe_op op_mod (pe_op op_fdiv (pv 2) pe_int) pe_int) fun _ _ => rfl)
        (pa_cons (pv 6) (pa_cons (pv 4) (pa_cons (pv 7) (pa_cons (pv 5) pa_nil))))))))))))))))))), ?_⟩
    refine ⟨_, rfl, _, rfl, a, ns, k, rfl, hs, hk, fun n h0 h1 => ?_⟩
    refine ⟨by show 10 ≤ sizeLine; decide, fun p1 hp1 => ⟨_, rfl, _, _, rfl, rfl, pos_lit (by decide), ?_⟩⟩
    obtain ⟨wd, ew, hw⟩ := at_words (n := n)
    refine .inl ⟨_, _, _, _, rfl, rfl, .inl (.inl upd_same), ew, ?_⟩
    have s1 := same_new (o := .lst [V.str "place", V.str "place", V.str "place", V.str "place", V.str "place", V.str "place", V.str "cancel", V.str "change", V.str "call", V.str "uncross"]) hp1
    refine ⟨_, rfl, rfl, _, rfl, ?_⟩
    rw [ne_str]
    by_cases hp : wd = "place"
    · subst hp
      refine iteF ?_
      refine ⟨_, rfl, _, rfl, _, _, rfl, rfl, a, ns, k + 1, rfl, same_seqL s1 hs, by omega, fun z z0 z1 => ⟨_, _, rfl, rfl, pos_lit (by decide), _, _, rfl, rfl, ?_⟩⟩
      refine ⟨by show 5 ≤ sizeLine; decide, fun p2 hp2 => tdm rfl ⟨by decide, by decide⟩ (by decide) ?_⟩
      obtain ⟨wy, ey⟩ := at_ways (Int.emod_nonneg (n / 10) (b := 5) (by decide)) (Int.emod_lt_of_pos (n / 10) (b := 5) (by decide))
      refine .inl ⟨_, _, _, _, rfl, rfl, .inl (.inl upd_same), ey, ?_⟩
      have s2 := same_upd s1 hp2 (o := .lst [V.str "rest", V.str "rest", V.str "rest", V.str "now", V.str "whole"])
      refine ⟨_, rfl, _, rfl, _, _, rfl, rfl, a, ns, k + 2, rfl, same_seqL s2 hs, by omega, fun pz H3 s3 => ?_⟩
      have s3' := s2.trans s3
      have m0 := Int.emod_nonneg z (b := 20) (by decide)
      refine ⟨fun σ' H' => ∃ (m : Int) (sh : Option Int), L2.Same H H' ∧ σ' = [some (V.ref a), some (.int k), some (.int n), some (.str "place"), some (.int m), some (.str wy.str), some (.int pz), some (optV sh)], ?_, ?_⟩
      · refine ⟨_, rfl, rfl, _, rfl, ?_⟩
        refine ite2 (fun _ => ?_) (fun _ => ?_)
        · refine tdm rfl ⟨by decide, by decide⟩ (by decide) ⟨rfl, _, rfl, ite2 (fun _ => ?_) (fun _ => ?_)⟩
          · exact ⟨_, rfl, _, _, rfl, rfl, ⟨by decide, by decide⟩, _, rfl, _, _, rfl, rfl, by show (0 : Int) < 1 + z % 20; omega, _, _, rfl, rfl, _, some _, s3', rfl⟩
          · refine tdm rfl ⟨by decide, by decide⟩ (by decide) ⟨rfl, _, rfl, ite2 (fun _ => ?_) (fun _ => ?_)⟩
            · refine ⟨by show 3 ≤ sizeLine; decide, fun p hp => tdm rfl ⟨by decide, by decide⟩ (by decide) ?_⟩
              obtain ⟨y, hy⟩ := atI_ints (ns := [10000, 9999, 100]) (Int.emod_nonneg (n / 600) (b := 3) (by decide)) (Int.emod_lt_of_pos (n / 600) (b := 3) (by decide))
              exact .inl ⟨_, _, _, _, rfl, rfl, .inl (.inl upd_same), hy, y, none, same_upd s3' hp, rfl⟩
            · exact ⟨_, none, s3', rfl⟩
        · refine iteF (tdm rfl ⟨by decide, by decide⟩ (by decide) ⟨rfl, _, rfl, ite2 (fun _ => ?_) (fun _ => ?_)⟩)
          · refine ⟨by show 3 ≤ sizeLine; decide, fun p hp => tdm rfl ⟨by decide, by decide⟩ (by decide) ?_⟩
            obtain ⟨y, hy⟩ := atI_ints (ns := [10000, 9999, 100]) (Int.emod_nonneg (n / 600) (b := 3) (by decide)) (Int.emod_lt_of_pos (n / 600) (b := 3) (by decide))
            exact .inl ⟨_, _, _, _, rfl, rfl, .inl (.inl upd_same), hy, y, none, same_upd s3' hp, rfl⟩
          · exact ⟨_, none, s3', rfl⟩
      · rintro σ' H4 ⟨m, sh, s4, rfl⟩
        refine ⟨fun σ' H' => ∃ (p : Option Int), L2.Same H H' ∧ σ' = [some (V.ref a), some (.int k), some (.int n), some (.str "place"), some (.int m), some (.str wy.str), some (optV p), some (optV sh)], ?_, ?_⟩
        · exact ⟨_, rfl, rfl, _, rfl, ite2 (fun _ => tdm rfl ⟨by decide, by decide⟩ (by decide) ⟨rfl, _, rfl, ite2 (fun _ => ⟨none, s4, rfl⟩) (fun _ => ⟨some pz, s4, rfl⟩)⟩) (fun _ => iteF ⟨some pz, s4, rfl⟩)⟩
        · rintro σ' H5 ⟨p, s5, rfl⟩
          refine ⟨fun σ' H' => ∃ (p : Option Int), L2.Same H H' ∧ σ' = [some (V.ref a), some (.int k), some (.int n), some (.str "place"), some (.int m), some (.str wy.str), some (optV p), some (optV sh)], ?_, ?_⟩
          · exact tdm rfl ⟨by decide, by decide⟩ (by decide) ⟨rfl, _, rfl, ite2 (fun _ => ⟨some 0, s5, rfl⟩) (fun _ => ⟨p, s5, rfl⟩)⟩
          · rintro σ' H6 ⟨p, s6, rfl⟩
            refine ⟨_, rfl, tdm rfl ⟨by decide, by decide⟩ (by decide) ⟨by show 2 ≤ sizeLine; decide, fun p3 hp3 => tdm rfl ⟨by decide, by decide⟩ (by decide) ?_⟩⟩
            obtain ⟨b, eb⟩ := at_sides (Int.emod_nonneg (n / 1800) (b := 2) (by decide)) (Int.emod_lt_of_pos (n / 1800) (b := 2) (by decide))
            refine .inl ⟨_, _, _, _, rfl, rfl, .inl (.inl upd_same), eb, ?_⟩
            refine ⟨_, rfl, _, rfl, _, rfl, _, rfl, by show 7 ≤ sizeLine; decide, fun t ht => ?_⟩
            have s7 := same_upd s6 hp3 (o := .lst [V.str "buy", V.str "sell"])
            exact q (.place (n / 3600 % 4) b p m sh wy) _ t _ (same_upd s7 ht) rfl (same_free s7 ht) upd_same
    · rw [decide_eq_false hp]
      refine iteT ⟨_, rfl, tdm rfl ⟨by decide, by decide⟩ (by decide) (tdm rfl ⟨by decide, by decide⟩ (by decide) ⟨by show 2 ≤ sizeLine; decide, fun p2 hp2 => ⟨_, rfl, _, _, rfl, rfl, ⟨by decide, by decide⟩, _, _, rfl, rfl, pos_lit (by decide), _, _, rfl, rfl, ⟨by decide, by decide⟩, ?_⟩⟩)⟩
      obtain ⟨y, hy⟩ := atI_ints (ns := [n / 160 % 42, 10001]) (i := n / 6720 % 12 / 11) (by omega) (by show _ < (2 : Int); omega)
      refine .inl ⟨_, _, _, _, rfl, rfl, .inl (.inl upd_same), hy, ?_⟩
      refine ⟨by show 3 ≤ sizeLine; decide, fun t ht => ?_⟩
      have s2 := same_upd s1 hp2 (o := .lst [V.int (n / 160 % 42), V.int 10001])
      have s3 := same_upd s2 ht (o := .tup [V.str wd, V.int (n / 10 % 16), V.int y])
      rcases hw with e | e | e | e | e
      · exact (hp e).elim
      · subst e
        exact q (.cancel (n / 10 % 16)) _ t _ s3 ⟨y, rfl⟩ (same_free s2 ht) upd_same
      · subst e
        exact q (.change (n / 10 % 16) y) _ t _ s3 rfl (same_free s2 ht) upd_same
      · subst e
        exact q .call _ t _ s3 ⟨_, rfl⟩ (same_free s2 ht) upd_same
      · subst e
        exact q .uncross _ t _ s3 ⟨_, rfl⟩ (same_free s2 ht) upd_same
  · obtain ⟨fd, F⟩ := T.f_l_deed
    exact F.kp
/-! ### what the book answers -/
inductive Ans where
  | bad | none | now | placed (n : Int) (es : List Ev) | left (n : Int) | done | trades (cs : List CTr)
def Ans.At (H : Hp) : Ans → V → Prop
  | .bad, v => v = .str "bad"
  | .none, v => v = .str "none"
  | .now, v => v = .str "now"
  | .placed n es, v => ∃ t r ys, v = .ref t ∧ H t = some (.tup [.int n, .ref r]) ∧ H r = some (.lst ys) ∧ Paired (EvAt H) es ys
  | .left n, v => v = .int n
  | .done, v => v = .non
  | .trades cs, v => ∃ r ys, v = .ref r ∧ H r = some (.lst ys) ∧ Paired (CtAt H) cs ys
/-- what a deed does to the book, and what is told of it -/
def Did (B : Bk) : Deed → Ans → Bk → Prop
  | .place o b p m s y, a, B' => (goodO (sideStr b) p m s y.str = false ∧ a = .bad ∧ B' = B) ∨ (Parts p m s y ∧ B.calling = true ∧ y ≠ .rest ∧ a = .now ∧ B' = B) ∨
      (Parts p m s y ∧ (B.calling = true → y = .rest) ∧ ∃ ad, a = .placed B.many (placeB B (newOrd B ad o b p m s) y).1 ∧ B' = (placeB B (newOrd B ad o b p m s) y).2)
  | .cancel n, a, B' => (∃ o, findO B.ords n = some o ∧ a = .left o.rest ∧ B' = cancelB B n) ∨ (findO B.ords n = Option.none ∧ a = .none ∧ B' = B)
  | .change n m, a, B' => (∃ o, findO B.ords n = some o ∧ isCount m = true ∧ a = .done ∧ B' = changeB B o m) ∨ (∃ o, findO B.ords n = some o ∧ isCount m = false ∧ a = .bad ∧ B' = B) ∨ (findO B.ords n = Option.none ∧ a = .none ∧ B' = B)
  | .call, a, B' => (B.calling = false ∧ a = .done ∧ B' = { B with calling := true }) ∨ (B.calling = true ∧ a = .now ∧ B' = B)
  | .uncross, a, B' => (B.calling = true ∧ a = .trades (uncrossB B).1 ∧ B' = (uncrossB B).2) ∨ (B.calling = false ∧ a = .now ∧ B' = B)
/-- the refusals' classes -/
def RefA (K : PySem.W.Frag) (a : Ans) (C : Addr) : Prop := (a = .bad ∧ C = He.ga K "BadOrder") ∨ (a = .none ∧ C = He.ga K "NotThere") ∨ (a = .now ∧ C = He.ga K "NotNow")
theorem RefA.exm (T : Tx K mg) {a : Ans} {C : Addr} (h : RefA K a C) : PySem.W.exmOne K (.ref C) (.ref (He.ga K "BookError")) = some true := by
  rcases h with ⟨_, e⟩ | ⟨_, e⟩ | ⟨_, e⟩ <;> rw [e]
  · exact T.x_BadOrder
  · exact T.x_NotThere
  · exact T.x_NotNow
theorem pe_fnS {X : Cx} {W : WX} {k : Nat} {x : Str} {ps : List Str} {sp : Sp} {p pos : Pos} {e : Expr} {es : List Expr} {t : TA} (F : Fn X.prog X.w X.K X.mg X.base (L2.CX X.prog X.w) k x ps sp) (hr : Room k X.A) (hg : Gl X x) (tk : Takes X W) (ha : PA X (e :: es) t)
    (hdb : (x == ("__debug__" : Str)) = false := by decide) (he : starEach (e :: es) X.env = (false, eval e X.env) :: starEach es X.env := by rfl) (hpl : (backTo pos (starEach es X.env)).any (·.1) = false := by rfl) :
    PE X (.Call (.Name x p) (e :: es) [] pos) (tCallS sp (WE W) t) := by
  obtain ⟨fd, G, b⟩ := F.ok
  exact pe_callS G hr hg F.gl F.kp b (passAt tk) ha hdb he hpl
theorem dix {j : Nat} {σ : L2.St} {H : Hp} {Q : VK} {t : Addr} {xs : List V} {i : Int} {v : V} (h : σ[j]? = some (some (.ref t))) (ht : H t = some (.tup xs)) (e : atI xs i = some v) (q : Q v H) : tOp (rIx K) (tVar j) (tC (.int i)) σ H Q :=
  ⟨_, h, .inr (.inl ⟨t, xs, i, v, rfl, rfl, .inl (.inl ht), e, q⟩)⟩
theorem ifY {c A B : Prop} [Decidable c] (hc : c) (h : A) : if decide c = true then A else B := by
  rw [if_pos (decide_eq_true hc)]
  exact h
theorem ifN {c A B : Prop} [Decidable c] (hc : ¬ c) (h : B) : if decide c = true then A else B := by
  rw [if_neg (by simpa using hc)]
  exact h
def spAsked (K : PySem.W.Frag) : Sp := fun vs H Q _ => ∃ (b d t : Addr) (B : Bk) (dd : Deed) (xs : List V), vs = [.ref b, .ref t] ∧ BookAt K H b d B ∧ BkOk B ∧ B.ords.length ≤ 900 ∧ H t = some (.tup xs) ∧ dd.At xs ∧
  ∀ a B' H' v, Did B dd a B' → BookAt K H' b d B' → Kd d H H' → a.At H' v → Q v H'
/-- behind the try -/
def AskM (K : PySem.W.Frag) (b d t : Addr) (H : Hp) (B : Bk) (dd : Deed) : L2.St → Hp → Prop := fun σ' H' => (∃ a B' v, σ' = [some (V.ref b), some (.ref t), some .non, some v, none, none] ∧ Did B dd a B' ∧ BookAt K H' b d B' ∧ Kd d H H' ∧ a.At H' v) ∨
  (∃ a C x, σ' = [some (V.ref b), some (.ref t), some (.ref x), some .non, none, none] ∧ Did B dd a B ∧ BookAt K H' b d B ∧ Kd d H H' ∧ RefA K a C ∧ H' x = some (ExK (.ref C) x))
theorem RefA.exc (T : Tx K mg) {a : Ans} {C : Addr} (h : RefA K a C) : ExcC K C := by
  rcases h with ⟨_, e⟩ | ⟨_, e⟩ | ⟨_, e⟩ <;> rw [e]
  · exact T.i_BadOrder
  · exact T.i_NotThere
  · exact T.i_NotNow
theorem RefA.kinds (T : Tx K mg) {a : Ans} {C : Addr} (h : RefA K a C) : ∃ (k1 k2 k3 : Bool) (j : Nat) (wd : Str), PySem.W.kitOne K (.ref C) (.ref (He.ga K "BadOrder")) = some k1 ∧ PySem.W.kitOne K (.ref C) (.ref (He.ga K "NotThere")) = some k2 ∧ PySem.W.kitOne K (.ref C) (.ref (He.ga K "NotNow")) = some k3 ∧
    PySem.W.kitOne K (.ref C) (.type "ValueError") = some true ∧ countIn (.bool true) ([k1, k2, k3].map PyData.bool) = 1 ∧ ([k1, k2, k3].map V.bl)[j]? = some (.bl true) ∧ (∀ m z', m < j → ([k1, k2, k3].map V.bl)[m]? = some z' → eqV z' (.bl true) = false) ∧
    [V.str "bad", V.str "none", V.str "now"][j]? = some (.str wd) ∧ ∀ H2, a.At H2 (.str wd) := by
  rcases h with ⟨ea, e⟩ | ⟨ea, e⟩ | ⟨ea, e⟩ <;> rw [e, ea]
  · exact ⟨true, false, false, 0, "bad", T.i_BadOrder_BadOrder, T.i_BadOrder_NotThere, T.i_BadOrder_NotNow, T.i_BadOrder_VE, rfl, rfl, fun m z' h => absurd h (Nat.not_lt_zero _), rfl, fun _ => rfl⟩
  · refine ⟨false, true, false, 1, "none", T.i_NotThere_BadOrder, T.i_NotThere_NotThere, T.i_NotThere_NotNow, T.i_NotThere_VE, rfl, rfl, fun m z' h q => ?_, rfl, fun _ => rfl⟩
    obtain rfl : m = 0 := by omega
    cases q
    rfl
  · refine ⟨false, false, true, 2, "now", T.i_NotNow_BadOrder, T.i_NotNow_NotThere, T.i_NotNow_NotNow, T.i_NotNow_VE, rfl, rfl, fun m z' h q => ?_, rfl, fun _ => rfl⟩
    rcases (show m = 0 ∨ m = 1 by omega) with rfl | rfl <;> cases q <;> rfl
theorem scAsked : FnScope ["_law_book", "_law_deed_here", "_law_kept", "_law_found", "e", "_law_kinds"] ["_law_book", "_law_deed_here"] (defScope s_l_asked) := ⟨rfl, rfl, rfl, by decide +kernel, rfl, by decide +kernel, by decide +kernel⟩
theorem w_l_asked (T : Tx K mg) : Fn P w K mg base CX0 6 "_law_asked" ["_law_book", "_law_deed_here"] (spAsked K) := by
  refine ⟨ok0 T.f_l_asked scAsked (fun _ _ _ _ _ _ us hl => match us, hl with | [_, _], _ => rfl) (fun vs H Q E h => ?_) (fun cdv A outer s H vs Q E hr h => ?_), T.g_l_asked, ?_⟩
  · obtain ⟨b, d, t, B, dd, xs, rfl, _⟩ := h
    rfl
  · obtain ⟨b, d, t, B, dd, xs, rfl, hB, hok, hlen, ht, hd, k⟩ := h
    have G1 : Fn P w K mg base (L2.CX P w) 5 "place" ["book", "owner", "side", "price", "many", "shows", "way"] (spPlace K) := w_place T
    have G2 : Fn P w K mg base (L2.CX P w) 2 "cancel" ["book", "number"] (spCancel K) := w_cancel T
    have G3 : Fn P w K mg base (L2.CX P w) 3 "change" ["book", "number", "many"] (spChange K) := w_change T
    have G4 : Fn P w K mg base (L2.CX P w) 1 "call" ["book"] (spCall K) := w_call T
    have G5 : Fn P w K mg base (L2.CX P w) 5 "uncross" ["book"] (spUncross K) := w_uncross T
    have hr2 := hr.mono (j := 2) (by decide)
    have hr3 := hr.mono (j := 3) (by decide)
    have hr1 := hr.mono (j := 1) (by decide)
    refine ⟨_, pss_cons (ps_set (i := 2) scAsked.nd rfl (Or.inl rfl) pe_non)
      (pss_cons (ps_set (i := 3) scAsked.nd rfl (Or.inl rfl) pe_non)
      (pss_cons (ps_mid (ps_kept (i := 4) (j := 2) rfl rfl rfl scAsked.nd rfl rfl rfl rfl (show 4 < 6 by decide) (by decide) (by decide) (fun _ => rfl) ⟨rfl, by decide, .inl T.g_BookError⟩ (fun W pn xe tk po =>
        pss_one (ps_if (pt_cmpR op_eq (pe_ix (r := rIx K) ix_seq (pv 1) pe_int (fun _ _ => rfl)) pe_str (nomark _))
          (pss_one (ps_set (i := 3) scAsked.nd rfl (Or.inl rfl) (pe_fnS G1 hr rfl tk (pa_cons (pv 0) (pa_cons (pe_ix (r := rIx K) ix_seq (pv 1) pe_int (fun _ _ => rfl)) (pa_cons (pe_ix (r := rIx K) ix_seq (pv 1) pe_int (fun _ _ => rfl)) (pa_cons (pe_ix (r := rIx K) ix_seq (pv 1) pe_int (fun _ _ => rfl)) (pa_cons (pe_ix (r := rIx K) ix_seq (pv 1) pe_int (fun _ _ => rfl))
            (pa_cons (pe_ix (r := rIx K) ix_seq (pv 1) pe_int (fun _ _ => rfl)) (pa_cons (pe_ix (r := rIx K) ix_seq (pv 1) pe_int (fun _ _ => rfl)) pa_nil))))))))))
          (pss_one (ps_if (pt_cmpR op_eq (pe_ix (r := rIx K) ix_seq (pv 1) pe_int (fun _ _ => rfl)) pe_str (nomark _))
            (pss_one (ps_set (i := 3) scAsked.nd rfl (Or.inl rfl) (pe_fnS G2 hr2 rfl tk (pa_cons (pv 0) (pa_cons (pe_ix (r := rIx K) ix_seq (pv 1) pe_int (fun _ _ => rfl)) pa_nil)))))
            (pss_one (ps_if (pt_cmpR op_eq (pe_ix (r := rIx K) ix_seq (pv 1) pe_int (fun _ _ => rfl)) pe_str (nomark _))
              (pss_one (ps_set (i := 3) scAsked.nd rfl (Or.inl rfl) (pe_fnS G3 hr3 rfl tk (pa_cons (pv 0) (pa_cons (pe_ix (r := rIx K) ix_seq (pv 1) pe_int (fun _ _ => rfl)) (pa_cons (pe_ix (r := rIx K) ix_seq (pv 1) pe_int (fun _ _ => rfl)) pa_nil))))))
              (pss_one (ps_if (pt_cmpR op_eq (pe_ix (r := rIx K) ix_seq (pv 1) pe_int (fun _ _ => rfl)) pe_str (nomark _))
                (pss_one (ps_set (i := 3) scAsked.nd rfl (Or.inl rfl) (pe_fnS G4 hr1 rfl tk (pa_cons (pv 0) pa_nil))))
                (pss_one (ps_set (i := 3) scAsked.nd rfl (Or.inl rfl) (pe_fnS G5 hr rfl tk (pa_cons (pv 0) pa_nil))))))))))))))
      (pss_cons (ps_if (pt_cmp (pc_isN (pv 2))) (pss_one (ps_ret (pv 3))) pss_nil)
      (pss_cons (ps_set (i := 5) scAsked.nd rfl (Or.inl rfl) (pe_lst (pa_cons (pe_callB call_isX rfl T.z_isinstance PyProof.Rows.boot_isinstance (pa_cons (pv 2) (pa_cons (pe_glob (v := .ref (He.ga K "BadOrder")) rfl T.g_BadOrder rfl) pa_nil)))
        (pa_cons (pe_callB call_isX rfl T.z_isinstance PyProof.Rows.boot_isinstance (pa_cons (pv 2) (pa_cons (pe_glob (v := .ref (He.ga K "NotThere")) rfl T.g_NotThere rfl) pa_nil)))
        (pa_cons (pe_callB call_isX rfl T.z_isinstance PyProof.Rows.boot_isinstance (pa_cons (pv 2) (pa_cons (pe_glob (v := .ref (He.ga K "NotNow")) rfl T.g_NotNow rfl) pa_nil))) pa_nil)))))
      (pss_cons (ps_if (PW.pt (pw_or (pt_cmpR op_ne (pe_bm PySem.F.plainAttrs_list PySem.F.slot_list_count PySem.F.type_list_count mt_cntB (pv 5) (pa_cons pe_bl pa_nil)) pe_int (nomark _))
          (pw_or1 (pt_not (pt_val (pe_callB call_isX rfl T.z_isinstance PyProof.Rows.boot_isinstance (pa_cons (pv 2) (pa_cons (pe_bltn (v := .ty "ValueError") (u := .type "ValueError") rfl T.z_ValueError (by decide +kernel) rfl) pa_nil))))))))
          (pss_one (ps_ret pe_str)) pss_nil)
      (pss_one (ps_ret (pe_ix ix_seq (pe_lst (pa_cons pe_str (pa_cons pe_str (pa_cons pe_str pa_nil)))) (pe_bm PySem.F.plainAttrs_list PySem.F.slot_list_index PySem.F.type_list_index mt_index (pv 5) (pa_cons pe_bl pa_nil)) fun _ _ => rfl)))))))), ?_⟩
    refine ⟨AskM K b d t H B dd, ?_, ?_⟩
    · have bad : ∀ (H1 : Hp) (a : Ans) (C : Addr), RefA K a C → Did B dd a B → BookAt K H1 b d B → Kd d H H1 → ∀ D : Ends, (∀ σ' H', AskM K b d t H B dd σ' H' → D.nx σ' H') →
          wKept K (.ref (He.ga K "BookError")) 4 2 D (.ref C) none [some (V.ref b), some (.ref t), some .non, some .non, none, none] H1 := fun H1 a C ra di hB1 k1 D hD =>
        ⟨rfl, ra.exm T, fun x hx => hD _ _ (.inr ⟨a, C, x, rfl, di, hB1.same (same_new hx), k1.trans (.of (same_new hx)), ra, upd_same⟩)⟩
      have good : ∀ (H1 : Hp) (a : Ans) (B' : Bk) (v : V), Did B dd a B' → BookAt K H1 b d B' → Kd d H H1 → a.At H1 v → AskM K b d t H B dd [some (V.ref b), some (.ref t), some .non, some v, none, none] H1 := fun H1 a B' v di hB1 k1 av => .inl ⟨a, B', v, rfl, di, hB1, k1, av⟩
      cases dd with
      | place o by_ p m s y =>
        have hd : xs = [.str "place", .int o, .str (sideStr by_), optV p, .int m, optV s, .str y.str] := hd
        subst hd
        refine dix rfl ht rfl ⟨rfl, _, rfl, ifY rfl ?_⟩
        refine ⟨_, rfl, dix rfl ht rfl (dix rfl ht rfl (dix rfl ht rfl (dix rfl ht rfl (dix rfl ht rfl (dix rfl ht rfl ?_)))))⟩
        refine ⟨b, d, B, o, sideStr by_, p, m, s, y.str, rfl, hB, hok, hlen, fun g H1 s1 => ?_, fun g hc hw H1 s1 => ?_, fun buy wy e1 e2 g hc H1 t1 r ys ad had hB1 k1 ht1 hr1 pe => ?_⟩
        · exact bad H1 .bad _ (.inl ⟨rfl, rfl⟩) (.inl ⟨g, rfl, rfl⟩) (hB.same s1) (.of s1) _ fun _ _ z => z
        · exact bad H1 .now _ (.inr (.inr ⟨rfl, rfl⟩)) (.inr (.inl ⟨goodO_parts.mp g, hc, fun z => hw (by rw [z]; rfl), rfl, rfl⟩)) (hB.same s1) (.of s1) _ fun _ _ z => z
        · cases sideStr_inj e1
          cases wayStr_inj e2
          exact good H1 _ _ _ (.inr (.inr ⟨g, hc, ad, rfl, rfl⟩)) hB1 k1 ⟨t1, r, ys, rfl, ht1, hr1, pe⟩
      | cancel n =>
        obtain ⟨m, hd⟩ := (show ∃ m, xs = [.str "cancel", .int n, .int m] from hd)
        subst hd
        refine dix rfl ht rfl ⟨rfl, _, rfl, ifN (by intro z; cases z) ?_⟩
        refine dix rfl ht rfl ⟨rfl, _, rfl, ifY rfl ?_⟩
        refine ⟨_, rfl, dix rfl ht rfl ⟨b, d, B, n, rfl, hB, fun o e H1 hB1 k1 => ?_, fun e => ?_⟩⟩
        · exact good H1 _ _ _ (.inl ⟨o, e, rfl, rfl⟩) hB1 k1 rfl
        · exact bad H .none _ (.inr (.inl ⟨rfl, rfl⟩)) (.inr ⟨e, rfl, rfl⟩) hB (.refl _ _) _ fun _ _ z => z
      | change n m =>
        have hd : xs = [.str "change", .int n, .int m] := hd
        subst hd
        refine dix rfl ht rfl ⟨rfl, _, rfl, ifN (by intro z; cases z) ?_⟩
        refine dix rfl ht rfl ⟨rfl, _, rfl, ifN (by intro z; cases z) ?_⟩
        refine dix rfl ht rfl ⟨rfl, _, rfl, ifY rfl ?_⟩
        refine ⟨_, rfl, dix rfl ht rfl (dix rfl ht rfl ⟨b, d, B, n, m, rfl, hB, by omega, fun o e c H1 hB1 k1 => ?_, fun o e c => ?_, fun e => ?_⟩)⟩
        · exact good H1 _ _ _ (.inl ⟨o, e, c, rfl, rfl⟩) hB1 k1 rfl
        · exact bad H .bad _ (.inl ⟨rfl, rfl⟩) (.inr (.inl ⟨o, e, c, rfl, rfl⟩)) hB (.refl _ _) _ fun _ _ z => z
        · exact bad H .none _ (.inr (.inl ⟨rfl, rfl⟩)) (.inr (.inr ⟨e, rfl, rfl⟩)) hB (.refl _ _) _ fun _ _ z => z
      | call =>
        obtain ⟨l, hd⟩ := (show ∃ l, xs = .str "call" :: l from hd)
        subst hd
        have a0 : atI (V.str "call" :: l) 0 = some (.str "call") := atI_nat (j := 0) rfl
        refine dix rfl ht a0 ⟨rfl, _, rfl, ifN (by intro z; cases z) ?_⟩
        refine dix rfl ht a0 ⟨rfl, _, rfl, ifN (by intro z; cases z) ?_⟩
        refine dix rfl ht a0 ⟨rfl, _, rfl, ifN (by intro z; cases z) ?_⟩
        refine dix rfl ht a0 ⟨rfl, _, rfl, ifY rfl ?_⟩
        refine ⟨_, rfl, b, d, B, rfl, hB, fun c H1 hB1 k1 => ?_, fun c => ?_⟩
        · exact good H1 _ _ _ (.inl ⟨c, rfl, rfl⟩) hB1 k1 rfl
        · exact bad H .now _ (.inr (.inr ⟨rfl, rfl⟩)) (.inr ⟨c, rfl, rfl⟩) hB (.refl _ _) _ fun _ _ z => z
      | uncross =>
        obtain ⟨l, hd⟩ := (show ∃ l, xs = .str "uncross" :: l from hd)
        subst hd
        have a0 : atI (V.str "uncross" :: l) 0 = some (.str "uncross") := atI_nat (j := 0) rfl
        refine dix rfl ht a0 ⟨rfl, _, rfl, ifN (by intro z; cases z) ?_⟩
        refine dix rfl ht a0 ⟨rfl, _, rfl, ifN (by intro z; cases z) ?_⟩
        refine dix rfl ht a0 ⟨rfl, _, rfl, ifN (by intro z; cases z) ?_⟩
        refine dix rfl ht a0 ⟨rfl, _, rfl, ifN (by intro z; cases z) ?_⟩
        refine ⟨_, rfl, b, d, B, rfl, hB, hok, by omega, fun c H1 r ys hB1 k1 hr1 pe => ?_, fun c => ?_⟩
        · exact good H1 _ _ _ (.inl ⟨c, rfl, rfl⟩) hB1 k1 ⟨r, ys, rfl, hr1, pe⟩
        · exact bad H .now _ (.inr (.inr ⟨rfl, rfl⟩)) (.inr ⟨c, rfl, rfl⟩) hB (.refl _ _) _ fun _ _ z => z
    · rintro σ' H' (⟨a, B', v, rfl, di, hB', k', av⟩ | ⟨a, C, x, rfl, di, hB', k', ra, hx⟩)
      · exact ⟨_, rfl, _, rfl, ifY rfl ⟨_, rfl, k a B' H' v di hB' k' av⟩⟩
      · refine ⟨_, rfl, _, rfl, ifN (by intro z; cases z) ?_⟩
        have isx : ∀ {i : Nat} {σ : L2.St} {cn : Addr} {bb : Bool} {Q : VK} {Hc : Hp}, σ[i]? = some (some (V.ref x)) → Hc x = some (ExK (.ref C) x) → PySem.W.kitOne K (.ref C) (.ref cn) = some bb → Q (.bl bb) Hc →
            tCB (rIsX K) (tCons (tVar i) (tCons (tC (.ref cn)) tNil)) σ Hc Q := fun hi hx' hk hq => ⟨_, hi, x, C, _, _, _, rfl, hx', ra.exc T, .own _, hk, hq⟩
        obtain ⟨k1, k2, k3, j, wd, h1, h2, h3, hv, hc, hj, hno, hw, ha⟩ := ra.kinds T
        refine isx rfl hx h1 (isx rfl hx h2 (isx rfl hx h3 ⟨by show 3 ≤ sizeLine; decide, fun p hp => ?_⟩))
        have sp := same_new (o := .lst [V.bl k1, V.bl k2, V.bl k3]) hp
        refine ⟨_, rfl, .inl ⟨rfl, _, .inl (.inl upd_same)⟩, p, [k1, k2, k3], rfl, rfl, .inl (.inl upd_same), rfl, _, rfl, ?_⟩
        rw [hc]
        refine iteNS rfl ⟨_, rfl, x, C, _, _, true, rfl, sp _ _ hx, ra.exc T, .ty "ValueError", hv, _, rfl, iteF ?_⟩
        refine ⟨by show 3 ≤ sizeLine; decide, fun p2 hp2 => ?_⟩
        have sp2 := same_upd sp hp2 (o := .lst [V.str "bad", V.str "none", V.str "now"])
        have ep : SqL K (upd (upd H' p (.lst [V.bl k1, V.bl k2, V.bl k3])) p2 (.lst [V.str "bad", V.str "none", V.str "now"])) p [V.bl k1, V.bl k2, V.bl k3] := .inl (.inl (by rw [upd_ne (ne_of_none upd_same hp2)]; exact upd_same))
        refine ⟨_, rfl, .inl ⟨rfl, _, ep⟩, p, _, .bl true, j, .bl true, rfl, rfl, ep, rfl, rfl, hj, rfl, hno, ?_⟩
        exact .inl ⟨p2, _, _, _, rfl, rfl, .inl (.inl upd_same), atI_nat hw, k a B _ _ di (hB'.same sp2) (k'.trans (.of sp2)) (ha _)⟩
  · obtain ⟨fd, F⟩ := T.f_l_asked
    exact F.kp
end
end FB

set_option maxRecDepth 100000
set_option maxHeartbeats 4000000
/-! Plain: what a deed does to the book, what the laws' record says of it. -/
namespace FB
open PySem PySem.Spec PyProof.Rows L2
/-! ### an order that comes -/
abbrev Bk.next (B : Bk) : Bk := { B with many := B.many + 1 }
theorem place_cases (B : Bk) (o : Ord) (w : Way) : ∃ r : List Ev × (Bk × Ord), ((r = matchAll (B.next, o) ∧ B.calling = false ∧ (w ≠ .whole ∨ canFill B.ords o = true)) ∨ (r = ([], (B.next, o)) ∧ (B.calling = true ∨ (w = .whole ∧ canFill B.ords o = false)))) ∧
    placeB B o w = (r.1, if w = .rest ∧ 0 < r.2.2.rest then r.2.1.put r.2.2 else r.2.1) := by
  refine ⟨if (!B.calling && (decide (w ≠ .whole) || canFill B.ords o)) = true then matchAll (B.next, o) else ([], (B.next, o)), ?_, rfl⟩
  by_cases c : (!B.calling && (decide (w ≠ .whole) || canFill B.ords o)) = true
  · rw [if_pos c]
    have c := Bool.and_eq_true_iff.mp c
    refine .inl ⟨rfl, by simpa using c.1, ?_⟩
    rcases Bool.or_eq_true_iff.mp c.2 with q | q
    · exact .inl (of_decide_eq_true q)
    · exact .inr q
  · rw [if_neg c]
    refine .inr ⟨rfl, ?_⟩
    cases hc : B.calling with
    | true => exact .inl rfl
    | false =>
      rw [hc] at c
      refine .inr ⟨?_, ?_⟩
      · by_cases hw : w = .whole
        · exact hw
        · exact absurd (by simp [hw]) c
      · cases hf : canFill B.ords o with
        | false => rfl
        | true => exact absurd (by simp [hf]) c
/-- what comes of an order that comes: those that rested, fewer and less; and the order itself, if it may rest -/
theorem place_from {B : Bk} (h : BkOk B) {ad : Nat} {owner : Int} {buy : Bool} {price : Option Int} {many : Int} {shows : Option Int} {w : Way} (x : Ord) (hx : x ∈ (placeB B (newOrd B ad owner buy price many shows) w).2.ords) :
    (∃ y ∈ B.ords, Like x y ∧ x.rest ≤ y.rest) ∨ (w = .rest ∧ Like x (newOrd B ad owner buy price many shows)) := by
  obtain ⟨r, hr, e⟩ := place_cases B (newOrd B ad owner buy price many shows) w
  rw [e] at hx
  have facts : Within r.2.1.ords B.ords ∧ Like r.2.2 (newOrd B ad owner buy price many shows) := by
    rcases hr with ⟨q, _⟩ | ⟨q, _⟩
    · have m := match_ok (s := (B.next, newOrd B ad owner buy price many shows)) (many_ok h)
      rw [q]
      exact ⟨m.within, m.like⟩
    · rw [q]
      exact ⟨Within.refl _, Like.refl _⟩
  by_cases c : w = .rest ∧ 0 < r.2.2.rest
  · have hx : x ∈ (if w = .rest ∧ 0 < r.2.2.rest then r.2.1.put r.2.2 else r.2.1 : Bk).ords := hx
    rw [if_pos c] at hx
    have hx : x ∈ putO r.2.1.ords ({ r.2.2 with place := r.2.1.places + 1 } : Ord).show := hx
    rcases mem_putO hx with e | ⟨hx, _⟩
    · refine .inr ⟨c.1, ?_⟩
      rw [e]
      have l := facts.2
      exact ⟨l.ad, l.num, l.own, l.buy, l.price, l.shows⟩
    · exact .inl (facts.1 x hx)
  · have hx : x ∈ (if w = .rest ∧ 0 < r.2.2.rest then r.2.1.put r.2.2 else r.2.1 : Bk).ords := hx
    rw [if_neg c] at hx
    exact .inl (facts.1 x hx)
/-! ### an order that is changed -/
structure ChangeOk (B : Bk) (o : Ord) (m : Int) (B' : Bk) : Prop where
  ok : BkOk B'
  from_ : ∀ x ∈ B'.ords, (∃ y ∈ B.ords, Like x y ∧ (x.rest = y.rest ∧ x.num ≠ o.num ∨ x.num = o.num ∧ x.rest = m))
  len : B'.ords.length ≤ B.ords.length + 1
  many : B'.many = B.many
  calling : B'.calling = B.calling
  last : B'.last = B.last
  traded : B'.traded = B.traded
theorem change_ok {B : Bk} (h : BkOk B) {o : Ord} {m : Int} (ho : o ∈ B.ords) (hm : isCount m = true) : ChangeOk B o m (changeB B o m) := by
  have q := h.os o ho
  have m1 : 1 ≤ m ∧ m ≤ 10000 := by simpa [isCount] using hm
  unfold changeB
  by_cases c : o.rest < m
  · rw [if_pos c, put_upd B (o1 := { o with rest := m }) (o := { o with rest := m }) rfl]
    refine ⟨put_ok h ⟨q.price, q.prb, m1.1, m1.2, q.shows, q.num0, q.num⟩, fun x hx => ?_, ?_, rfl, rfl, rfl, rfl⟩
    · have hx : x ∈ putO B.ords ({ o with rest := m, place := B.places + 1 } : Ord).show := hx
      rcases mem_putO hx with e | ⟨hx, n⟩
      · rw [e]
        exact ⟨o, ho, ⟨rfl, rfl, rfl, rfl, rfl, rfl⟩, .inr ⟨rfl, rfl⟩⟩
      · exact ⟨x, hx, Like.refl x, .inl ⟨rfl, n⟩⟩
    · exact putO_len _ _
  · rw [if_neg c]
    have i1 := imin_le_r o.part m
    have i2 := imin_or o.part m
    have := q.part
    refine ⟨upd_ok h ho rfl rfl ⟨q.price, q.prb, m1.1, m1.2, by show 1 ≤ imin o.part m; omega, i1, q.shows, q.num0, q.num, q.pl0, q.pl⟩, fun x hx => ?_, ?_, rfl, rfl, rfl, rfl⟩
    · have hx : x ∈ updO B.ords { o with rest := m, part := imin o.part m } := hx
      rcases mem_updO hx with ⟨e, _⟩ | ⟨hx, n⟩
      · rw [e]
        exact ⟨o, ho, ⟨rfl, rfl, rfl, rfl, rfl, rfl⟩, .inr ⟨rfl, rfl⟩⟩
      · exact ⟨x, hx, Like.refl x, .inl ⟨rfl, n⟩⟩
    · show (updO B.ords _).length ≤ _
      rw [updO_len]
      omega
/-! ### a deed -/
def Ans.num : Ans → Option Int
  | .placed n _ => some n
  | _ => Option.none
/-- what of a deed's answer fits it -/
def Fits : Deed → Ans → Prop
  | .place _ _ _ _ _ _, .bad => True
  | .place _ _ _ _ _ _, .now => True
  | .place _ _ _ _ _ _, .placed _ _ => True
  | .cancel _, .left _ => True
  | .cancel _, .none => True
  | .change _ _, .done => True
  | .change _ _, .bad => True
  | .change _ _, .none => True
  | .call, .done => True
  | .call, .now => True
  | .uncross, .trades _ => True
  | .uncross, .now => True
  | _, _ => False
structure DidOk (B : Bk) (dd : Deed) (a : Ans) (B' : Bk) : Prop where
  ok : BkOk B'
  fits : Fits dd a
  len : B'.ords.length ≤ B.ords.length + 1
  from_ : ∀ x ∈ B'.ords, (∃ y ∈ B.ords, Like x y) ∨ (∃ o b p m s es, dd = .place o b p m s .rest ∧ a = .placed B.many es ∧ x.num = B.many ∧ x.own = o ∧ x.buy = b ∧ x.price = p)
  new : ∀ n es, a = .placed n es → n = B.many ∧ B'.many = B.many + 1
  old : a.num = none → B'.many = B.many
  chg : ∀ n m, dd = .change n m → a = .done → ∃ o ∈ B.ords, o.num = n
  can : ∀ n k, dd = .cancel n → a = .left k → ∃ o ∈ B.ords, o.num = n
theorem did_same {B : Bk} (h : BkOk B) {dd : Deed} {a : Ans} (f : Fits dd a) (hn : a.num = none) (h1 : ∀ n m, dd = .change n m → a ≠ .done) (h2 : ∀ n k, dd = .cancel n → a ≠ .left k) : DidOk B dd a B :=
  ⟨h, f, by omega, fun x hx => .inl ⟨x, hx, Like.refl x⟩, fun n es e => (by rw [e] at hn; cases hn), fun _ => rfl, fun n m e1 e2 => absurd e2 (h1 n m e1), fun n k e1 e2 => absurd e2 (h2 n k e1)⟩
theorem did_ok {B : Bk} (h : BkOk B) {dd : Deed} {a : Ans} {B' : Bk} (hd : Did B dd a B') : DidOk B dd a B' := by
  cases dd with
  | place o b p m s y =>
    rcases hd with ⟨_, rfl, rfl⟩ | ⟨_, _, _, rfl, rfl⟩ | ⟨g, hc, ad, rfl, rfl⟩
    · exact did_same h trivial rfl (fun _ _ e => nomatch e) fun _ _ e => nomatch e
    · exact did_same h trivial rfl (fun _ _ e => nomatch e) fun _ _ e => nomatch e
    · have P := place_ok (ad := ad) (owner := o) (buy := b) h g
      refine ⟨P.ok, trivial, P.len, fun x hx => ?_, fun n es e => ?_, fun e => (nomatch e), fun _ _ e => (nomatch e), fun _ _ e => (nomatch e)⟩
      · rcases place_from h x hx with ⟨y, hy, l, _⟩ | ⟨hw, l⟩
        · exact .inl ⟨y, hy, l⟩
        · subst hw
          exact .inr ⟨o, b, p, m, s, _, rfl, rfl, l.num, l.own, l.buy, l.price⟩
      · cases e
        exact ⟨rfl, P.many⟩
  | cancel n =>
    rcases hd with ⟨o, ho, rfl, rfl⟩ | ⟨_, rfl, rfl⟩
    · exact ⟨drop_ok h n, trivial, by have := List.length_filter_le (fun x : Ord => decide (x.num ≠ n)) B.ords; show (dropO B.ords n).length ≤ _; unfold dropO; omega, fun x hx => .inl ⟨x, (mem_dropO.mp hx).1, Like.refl x⟩, fun _ _ e => (nomatch e), fun _ => rfl, fun _ _ e => (nomatch e),
        fun n' k e1 e2 => by
          cases e1
          obtain ⟨h1, h2⟩ := find_some ho
          exact ⟨o, h1, h2⟩⟩
    · exact did_same h trivial rfl (fun _ _ e => nomatch e) fun _ _ _ e => nomatch e
  | change n m =>
    rcases hd with ⟨o, ho, hm, rfl, rfl⟩ | ⟨_, _, _, rfl, rfl⟩ | ⟨_, rfl, rfl⟩
    · obtain ⟨h1, h2⟩ := find_some ho
      have C := change_ok h h1 hm
      exact ⟨C.ok, trivial, C.len, fun x hx => let ⟨y, hy, l, _⟩ := C.from_ x hx; .inl ⟨y, hy, l⟩, fun _ _ e => (nomatch e), fun _ => C.many, fun n' m' e _ => by
        cases e
        exact ⟨o, h1, h2⟩, fun _ _ e => (nomatch e)⟩
    · exact did_same h trivial rfl (fun _ _ _ e => nomatch e) fun _ _ e => nomatch e
    · exact did_same h trivial rfl (fun _ _ _ e => nomatch e) fun _ _ e => nomatch e
  | call =>
    rcases hd with ⟨_, rfl, rfl⟩ | ⟨_, rfl, rfl⟩
    · exact ⟨calling_ok h true, trivial, Nat.le_succ _, fun x hx => .inl ⟨x, hx, Like.refl x⟩, fun _ _ e => (nomatch e), fun _ => rfl, fun _ _ e => (nomatch e), fun _ _ e => (nomatch e)⟩
    · exact did_same h trivial rfl (fun _ _ e => nomatch e) fun _ _ e => nomatch e
  | uncross =>
    rcases hd with ⟨_, rfl, rfl⟩ | ⟨_, rfl, rfl⟩
    · have U := uncross_ok h
      exact ⟨U.ok, trivial, Nat.le_succ_of_le U.len, fun x hx => let ⟨y, hy, l, _⟩ := U.within x hx; .inl ⟨y, hy, l⟩, fun _ _ e => (nomatch e), fun _ => U.many, fun _ _ e => (nomatch e), fun _ _ e => (nomatch e)⟩
    · exact did_same h trivial rfl (fun _ _ e => nomatch e) fun _ _ e => nomatch e
/-! ### the laws' record -/
structure Rec where
  ad : Nat
  n : Int
  own : Int
  buy : Bool
  price : Option Int
  left : Int
  way : Way
def recF (r : Rec) : List (Key × V) := [(.inr "owner", .int r.own), (.inr "side", .str (sideStr r.buy)), (.inr "price", optV r.price), (.inr "left", .int r.left), (.inr "way", .str r.way.str)]
def recE (r : Rec) : Key × V := (.inl r.n, .ref r.ad)
def setLeft (rs : List Rec) (n m : Int) : List Rec := rs.map fun r => if r.n = n then { r with left := m } else r
def keepR (rs : List Rec) (dd : Deed) (a : Ans) (ad : Nat) : List Rec := match dd, a with
  | .place o b p m _ y, .placed n _ => rs ++ [{ ad := ad, n := n, own := o, buy := b, price := p, left := m, way := y }]
  | .change n m, .done => setLeft rs n m
  | .cancel n, .left _ => setLeft rs n 0
  | _, _ => rs
/-- the record knows each order that rests -/
structure Known (B : Bk) (rs : List Rec) : Prop where
  of : ∀ o ∈ B.ords, ∃ r ∈ rs, r.n = o.num ∧ r.buy = o.buy ∧ r.price = o.price ∧ r.own = o.own ∧ r.way = .rest
  lt : ∀ r ∈ rs, r.n < B.many
theorem mem_setLeft {rs : List Rec} {n m : Int} {r : Rec} (h : r ∈ setLeft rs n m) : ∃ r0 ∈ rs, r.n = r0.n ∧ r.ad = r0.ad ∧ r.own = r0.own ∧ r.buy = r0.buy ∧ r.price = r0.price ∧ r.way = r0.way ∧ r.left = if r0.n = n then m else r0.left := by
  obtain ⟨r0, h0, e⟩ := List.mem_map.mp h
  refine ⟨r0, h0, ?_⟩
  rw [← e]
  by_cases c : r0.n = n
  · rw [if_pos c, if_pos c]
    exact ⟨rfl, rfl, rfl, rfl, rfl, rfl, rfl⟩
  · rw [if_neg c, if_neg c]
    exact ⟨rfl, rfl, rfl, rfl, rfl, rfl, rfl⟩
theorem setLeft_mem {rs : List Rec} {n m : Int} {r0 : Rec} (h : r0 ∈ rs) : ∃ r ∈ setLeft rs n m, r.n = r0.n ∧ r.ad = r0.ad ∧ r.own = r0.own ∧ r.buy = r0.buy ∧ r.price = r0.price ∧ r.way = r0.way := by
  refine ⟨if r0.n = n then { r0 with left := m } else r0, List.mem_map.mpr ⟨r0, h, rfl⟩, ?_⟩
  by_cases c : r0.n = n
  · rw [if_pos c]
    exact ⟨rfl, rfl, rfl, rfl, rfl, rfl⟩
  · rw [if_neg c]
    exact ⟨rfl, rfl, rfl, rfl, rfl, rfl⟩
/-- who stood in the record stands there, but for what is left -/
theorem keep_mem {rs : List Rec} {dd : Deed} {a : Ans} {ad : Nat} {r0 : Rec} (h : r0 ∈ rs) : ∃ r ∈ keepR rs dd a ad, r.n = r0.n ∧ r.ad = r0.ad ∧ r.own = r0.own ∧ r.buy = r0.buy ∧ r.price = r0.price ∧ r.way = r0.way := by
  unfold keepR
  split
  · exact ⟨r0, List.mem_append_left _ h, rfl, rfl, rfl, rfl, rfl, rfl⟩
  · exact setLeft_mem h
  · exact setLeft_mem h
  · exact ⟨r0, h, rfl, rfl, rfl, rfl, rfl, rfl⟩
theorem known_did {B B' : Bk} {rs : List Rec} {dd : Deed} {a : Ans} {ad : Nat} (k : Known B rs) (d : DidOk B dd a B') : Known B' (keepR rs dd a ad) := by
  have hmany : B.many ≤ B'.many := by
    cases e : a.num with
    | none => rw [d.old e]; exact Int.le_refl _
    | some n =>
      cases a with
      | placed n' es =>
        have := (d.new n' es rfl).2
        omega
      | _ => cases e
  refine ⟨fun o ho => ?_, fun r hr => ?_⟩
  · rcases d.from_ o ho with ⟨y, hy, l⟩ | ⟨o', b, p, m, s, es, e1, e2, x1, x2, x3, x4⟩
    · obtain ⟨r0, h0, q1, q2, q3, q4, q5⟩ := k.of y hy
      obtain ⟨r, hr, e1, _, e2, e3, e4, e5⟩ := keep_mem (dd := dd) (a := a) (ad := ad) h0
      exact ⟨r, hr, by rw [e1, q1, l.num], by rw [e3, q2, l.buy], by rw [e4, q3, l.price], by rw [e2, q4, l.own], by rw [e5, q5]⟩
    · subst e1 e2
      exact ⟨_, List.mem_append_right _ List.mem_cons_self, x1.symm, x3.symm, x4.symm, x2.symm, rfl⟩
  · unfold keepR at hr
    split at hr
    · rename_i o b p m s y n es
      obtain ⟨e1, e2⟩ := d.new n es rfl
      rcases List.mem_append.mp hr with hr | hr
      · have := k.lt r hr
        omega
      · rw [List.mem_singleton.mp hr]
        show n < B'.many
        omega
    · obtain ⟨r0, h0, e, _⟩ := mem_setLeft hr
      have := k.lt r0 h0
      omega
    · obtain ⟨r0, h0, e, _⟩ := mem_setLeft hr
      have := k.lt r0 h0
      omega
    · have := k.lt r hr
      omega
end FB

set_option maxRecDepth 100000
set_option maxHeartbeats 4000000
/-! The laws' record in the heap; _law_keep. -/
namespace FB
open PySem PySem.Spec PyProof.Rows L2
end FB

set_option maxRecDepth 100000
set_option maxHeartbeats 4000000
/-! Plain: the rows stand in order; the best of a call's prices; behind a call nobody crosses. -/
namespace FB
/-! ### the rows -/
theorem Lt3.irrefl (a : Ord) : ¬ Lt3 a a := by
  unfold Lt3
  omega
theorem leO_iff (a b : Ord) : leO a b = true ↔ ¬ Lt3 b a := by
  unfold leO
  simp
theorem leO_trans (a b c : Ord) (h1 : leO a b = true) (h2 : leO b c = true) : leO a c = true := by
  rw [leO_iff] at *
  unfold Lt3 at *
  omega
theorem leO_total (a b : Ord) : (leO a b || leO b a) = true := by
  rw [Bool.or_eq_true, leO_iff, leO_iff]
  unfold Lt3
  omega
theorem row_sorted (os : List Ord) (side : Bool) : (row os side).Pairwise fun a b => leO a b = true := by
  unfold row
  exact List.pairwise_mergeSort leO_trans leO_total _
theorem leO_k1 {a b : Ord} (h : leO a b = true) : a.k1 ≤ b.k1 := by
  rw [leO_iff] at h
  unfold Lt3 at h
  omega
theorem head_k1 {x : Ord} {l : List Ord} (h : (x :: l).Pairwise fun a b => leO a b = true) : ∀ y ∈ x :: l, x.k1 ≤ y.k1 := fun y hy => by
  rcases List.mem_cons.mp hy with e | hy
  · rw [e]
    exact Int.le_refl _
  · exact leO_k1 (List.rel_of_pairwise_cons h hy)
/-- no buy order reaches a sell order -/
def NC (os : List Ord) : Prop := ∀ x ∈ os, ∀ y ∈ os, x.buy = true → y.buy = false → x.pr < y.pr
theorem k1_buy {o : Ord} (h : o.buy = true) : o.k1 = -o.pr := by
  unfold Ord.k1
  rw [h]
  rfl
theorem k1_sell {o : Ord} (h : o.buy = false) : o.k1 = o.pr := by
  unfold Ord.k1
  rw [h]
  rfl
theorem crossed_nc (os : List Ord) : crossed os = false ↔ NC os := by
  unfold crossed
  cases e1 : row os true with
  | nil =>
    refine ⟨fun _ x hx y hy hb _ => ?_, fun _ => rfl⟩
    have := row_mem.mpr ⟨hx, hb⟩
    rw [e1] at this
    cases this
  | cons b bs =>
    cases e2 : row os false with
    | nil =>
      refine ⟨fun _ x hx y hy _ hb => ?_, fun _ => rfl⟩
      have := row_mem.mpr ⟨hy, hb⟩
      rw [e2] at this
      cases this
    | cons s ss =>
      have s1 := row_sorted os true
      have s2 := row_sorted os false
      rw [e1] at s1
      rw [e2] at s2
      have mb := row_mem.mp (show b ∈ row os true by rw [e1]; exact List.mem_cons_self)
      have ms := row_mem.mp (show s ∈ row os false by rw [e2]; exact List.mem_cons_self)
      show decide (s.pr ≤ b.pr) = false ↔ _
      rw [decide_eq_false_iff_not]
      refine ⟨fun h x hx y hy xb yb => ?_, fun h => by have := h b mb.1 s ms.1 mb.2 ms.2; omega⟩
      have q1 := head_k1 s1 x (by rw [← e1]; exact row_mem.mpr ⟨hx, xb⟩)
      have q2 := head_k1 s2 y (by rw [← e2]; exact row_mem.mpr ⟨hy, yb⟩)
      rw [k1_buy mb.2, k1_buy xb] at q1
      rw [k1_sell ms.2, k1_sell yb] at q2
      omega
/-! ### the best of some ranks -/
theorem ltL_irrefl : ∀ a : List Int, ltL a a = false
  | [] => rfl
  | x :: xs => by
    unfold ltL
    rw [if_pos rfl]
    exact ltL_irrefl xs
theorem ltL_trans : ∀ {a b c : List Int}, ltL a b = true → ltL b c = true → ltL a c = true
  | [], [], _, h, _ => by cases h
  | [], _ :: _, [], _, h => by cases h
  | [], _ :: _, _ :: _, _, _ => rfl
  | _ :: _, [], _, h, _ => by cases h
  | _ :: _, _ :: _, [], _, h => by cases h
  | x :: xs, y :: ys, z :: zs, h1, h2 => by
    unfold ltL at *
    by_cases e1 : x = y
    · rw [if_pos e1] at h1
      by_cases e2 : y = z
      · rw [if_pos e2] at h2
        rw [if_pos (e1.trans e2)]
        exact ltL_trans h1 h2
      · rw [if_neg e2] at h2
        rw [if_neg (by rw [e1]; exact e2), e1]
        exact h2
    · rw [if_neg e1] at h1
      have h1 := of_decide_eq_true h1
      by_cases e2 : y = z
      · rw [if_neg (by omega)]
        exact decide_eq_true (by omega)
      · rw [if_neg e2] at h2
        have h2 := of_decide_eq_true h2
        rw [if_neg (by omega)]
        exact decide_eq_true (by omega)
theorem ltL_cotrans : ∀ {a b : List Int} (c : List Int), ltL a b = true → ltL a c = true ∨ ltL c b = true
  | [], [], _, h => by cases h
  | [], _ :: _, [], _ => .inr rfl
  | [], _ :: _, _ :: _, _ => .inl rfl
  | _ :: _, [], _, h => by cases h
  | _ :: _, _ :: _, [], _ => .inr rfl
  | x :: xs, y :: ys, z :: zs, h => by
    unfold ltL at *
    by_cases e1 : x = y
    · rw [if_pos e1] at h
      subst e1
      by_cases e2 : x = z
      · subst e2
        rw [if_pos rfl, if_pos rfl]
        exact ltL_cotrans zs h
      · rw [if_neg e2, if_neg (Ne.symm e2)]
        rcases Int.lt_or_gt_of_ne e2 with q | q
        · exact .inl (decide_eq_true q)
        · exact .inr (decide_eq_true q)
    · rw [if_neg e1] at h
      have h := of_decide_eq_true h
      by_cases q : x < z
      · rw [if_neg (by omega : ¬ x = z)]
        exact .inl (decide_eq_true q)
      · rw [if_neg (by omega : ¬ z = y)]
        exact .inr (decide_eq_true (by omega))
theorem better_best : ∀ (l : List (List Int)) (b : Option (List Int)) (r : List Int), l.foldl better b = some r → (∀ x ∈ l, ltL x r = false) ∧ ∀ c, b = some c → ltL c r = false
  | [], b, r, h => by
    refine ⟨nofun, fun c e => ?_⟩
    have h : b = some r := h
    rw [e] at h
    rw [Option.some.inj h]
    exact ltL_irrefl r
  | x :: l, b, r, h => by
    rw [List.foldl_cons] at h
    obtain ⟨h1, h2⟩ := better_best l (better b x) r h
    cases b with
    | none =>
      refine ⟨fun y hy => ?_, nofun⟩
      rcases List.mem_cons.mp hy with e | hy
      · rw [e]
        exact h2 x rfl
      · exact h1 y hy
    | some c =>
      by_cases q : ltL x c = true
      · have e : better (some c) x = some x := if_pos q
        have hx := h2 x e
        refine ⟨fun y hy => ?_, fun c' e' => ?_⟩
        · rcases List.mem_cons.mp hy with e | hy
          · rw [e]
            exact hx
          · exact h1 y hy
        · cases e'
          cases hc : ltL c r with
          | false => rfl
          | true => exact absurd (ltL_trans q hc) (by rw [hx]; decide)
      · have e : better (some c) x = some c := if_neg q
        have hc := h2 c e
        refine ⟨fun y hy => ?_, fun c' e' => ?_⟩
        · rcases List.mem_cons.mp hy with e | hy
          · rw [e]
            cases hx : ltL x r with
            | false => rfl
            | true =>
              rcases ltL_cotrans c hx with z | z
              · exact absurd z q
              · rw [hc] at z
                cases z
          · exact h1 y hy
        · cases e'
          exact hc
/-- at no price of an order can more be traded -/
theorem callPrice_most {os : List Ord} {last : Option Int} {p n : Int} (h : callPrice os last = some (p, n)) : ∀ o ∈ os, imin (wanted os true o.pr) (wanted os false o.pr) ≤ n := fun o ho => by
  obtain ⟨_, _, _, e2, _, hb⟩ := callPrice_some h
  have k := (better_best _ _ _ hb).1 (rank os last o.pr) (List.mem_map.mpr ⟨o, ho, rfl⟩)
  unfold rank at k
  unfold ltL at k
  by_cases e : -imin (wanted os true o.pr) (wanted os false o.pr) = -imin (wanted os true p) (wanted os false p)
  · omega
  · rw [if_neg e] at k
    have := of_decide_eq_false k
    omega
theorem callPrice_none {os : List Ord} {last : Option Int} (hr : ∀ o ∈ os, 0 ≤ o.rest) (h : callPrice os last = none) : ∀ o ∈ os, imin (wanted os true o.pr) (wanted os false o.pr) = 0 := fun o ho => by
  have nn := imin_nonneg (wanted_nonneg hr true o.pr) (wanted_nonneg hr false o.pr)
  unfold callPrice at h
  cases e : bestOf os last with
  | none =>
    exfalso
    have : ∀ (l : List (List Int)) (b : Option (List Int)), (l ≠ [] ∨ b ≠ none) → l.foldl better b ≠ none := by
      intro l
      induction l with
      | nil =>
        intro b hb
        rcases hb with hb | hb
        · exact absurd rfl hb
        · exact hb
      | cons x l ih =>
        intro b _
        rw [List.foldl_cons]
        refine ih _ (.inr ?_)
        unfold better
        cases b with
        | none => exact fun z => nomatch z
        | some c =>
          show (if ltL x c = true then some x else some c) ≠ none
          split <;> exact fun z => nomatch z
    refine this _ _ (.inl ?_) e
    intro z
    have := List.map_eq_nil_iff.mp z
    rw [this] at ho
    cases ho
  | some r =>
    obtain ⟨o', ho', er⟩ := best_mem e
    have k := (better_best _ _ _ e).1 (rank os last o.pr) (List.mem_map.mpr ⟨o, ho, rfl⟩)
    rw [e, er] at h
    rw [er] at k
    unfold rank at h k
    have h : (if -imin (wanted os true o'.pr) (wanted os false o'.pr) = 0 then none else some (o'.pr, - -imin (wanted os true o'.pr) (wanted os false o'.pr))) = none := h
    by_cases c : -imin (wanted os true o'.pr) (wanted os false o'.pr) = 0
    · unfold ltL at k
      by_cases c2 : -imin (wanted os true o.pr) (wanted os false o.pr) = -imin (wanted os true o'.pr) (wanted os false o'.pr)
      · omega
      · rw [if_neg c2] at k
        have := of_decide_eq_false k
        omega
    · rw [if_neg c] at h
      cases h
/-! ### a row of which the first are traded -/
/-- t taken off, from the front -/
def trim : Int → List Ord → List Ord
  | _, [] => []
  | t, x :: l => if t ≤ 0 then x :: l else if x.rest ≤ t then trim (t - x.rest) l else lessen x t :: l
theorem trim_zero {t : Int} (h : t ≤ 0) (l : List Ord) : trim t l = l := by
  cases l with
  | nil => rfl
  | cons x l =>
    unfold trim
    rw [if_pos h]
theorem lessen_lessen (o : Ord) (a b : Int) : lessen (lessen o a) b = lessen o (a + b) := by
  unfold lessen Ord.show Ord.shown
  have e : o.rest - a - b = o.rest - (a + b) := by omega
  show ({ o with rest := o.rest - a - b, part := match o.shows with | none => o.rest - a - b | some s => imin s (o.rest - a - b) } : Ord) = _
  rw [e] <;> rfl
theorem trim_trim {m : Int} (hm : 0 ≤ m) : ∀ {l : List Ord} {t : Int}, 0 ≤ t → (∀ x ∈ l, 1 ≤ x.rest) → trim m (trim t l) = trim (t + m) l
  | [], t, _, _ => rfl
  | x :: l, t, ht, hl => by
    have hx := hl x List.mem_cons_self
    by_cases e0 : t ≤ 0
    · rw [trim_zero e0]
      congr 1
      omega
    · by_cases e1 : x.rest ≤ t
      · have a1 : trim t (x :: l) = trim (t - x.rest) l := by
          show (if t ≤ 0 then x :: l else if x.rest ≤ t then trim (t - x.rest) l else lessen x t :: l) = _
          rw [if_neg e0, if_pos e1]
        have a2 : trim (t + m) (x :: l) = trim (t + m - x.rest) l := by
          show (if t + m ≤ 0 then x :: l else if x.rest ≤ t + m then trim (t + m - x.rest) l else lessen x (t + m) :: l) = _
          rw [if_neg (by omega), if_pos (by omega)]
        rw [a1, a2, trim_trim hm (by omega) fun y hy => hl y (List.mem_cons_of_mem _ hy)]
        congr 1
        omega
      · have a1 : trim t (x :: l) = lessen x t :: l := by
          show (if t ≤ 0 then x :: l else if x.rest ≤ t then trim (t - x.rest) l else lessen x t :: l) = _
          rw [if_neg e0, if_neg e1]
        rw [a1]
        have er : (lessen x t).rest = x.rest - t := rfl
        show (if m ≤ 0 then lessen x t :: l else if (lessen x t).rest ≤ m then trim (m - (lessen x t).rest) l else lessen (lessen x t) m :: l) = (if t + m ≤ 0 then x :: l else if x.rest ≤ t + m then trim (t + m - x.rest) l else lessen x (t + m) :: l)
        rw [if_neg (show ¬ t + m ≤ 0 by omega), er, lessen_lessen]
        by_cases c0 : m ≤ 0
        · have : m = 0 := by omega
          subst this
          rw [if_pos c0, if_neg (by omega), Int.add_zero]
        · rw [if_neg c0]
          by_cases c1 : x.rest - t ≤ m
          · rw [if_pos c1, if_pos (by omega)]
            congr 1
            omega
          · rw [if_neg c1, if_neg (by omega)]
theorem trim_like : ∀ {l : List Ord} {t : Int} {x : Ord}, x ∈ trim t l → ∃ y ∈ l, Like x y
  | [], _, _, h => by cases h
  | a :: l, t, x, h => by
    unfold trim at h
    by_cases e0 : t ≤ 0
    · rw [if_pos e0] at h
      exact ⟨x, h, Like.refl x⟩
    · rw [if_neg e0] at h
      by_cases e1 : a.rest ≤ t
      · rw [if_pos e1] at h
        obtain ⟨y, hy, k⟩ := trim_like h
        exact ⟨y, List.mem_cons_of_mem _ hy, k⟩
      · rw [if_neg e1] at h
        rcases List.mem_cons.mp h with e | h
        · rw [e]
          exact ⟨a, List.mem_cons_self, lessen_like a t⟩
        · exact ⟨x, List.mem_cons_of_mem _ h, Like.refl x⟩
theorem Like.k1 {x y : Ord} (a : Like x y) : x.k1 = y.k1 := by
  unfold Ord.k1
  rw [a.buy, a.pr]
/-- how many are left of those as good as k -/
def upK (k : Int) (l : List Ord) : Int := ((l.filter fun o => decide (o.k1 ≤ k)).map (·.rest)).sum
theorem upK_cons (k : Int) (a : Ord) (l : List Ord) : upK k (a :: l) = (if a.k1 ≤ k then a.rest else 0) + upK k l := by
  unfold upK
  rw [List.filter_cons]
  by_cases c : a.k1 ≤ k
  · rw [if_pos (decide_eq_true c), if_pos c, List.map_cons, List.sum_cons]
  · rw [if_neg (by simpa using c), if_neg c, Int.zero_add]
theorem upK_nonneg {k : Int} : ∀ {l : List Ord}, (∀ x ∈ l, 1 ≤ x.rest) → 0 ≤ upK k l
  | [], _ => Int.le_refl _
  | a :: l, h => by
    rw [upK_cons]
    have := upK_nonneg (k := k) (l := l) fun x hx => h x (List.mem_cons_of_mem _ hx)
    have := h a List.mem_cons_self
    split <;> omega
theorem upK_mem {k : Int} : ∀ {l : List Ord} {x : Ord}, (∀ x ∈ l, 1 ≤ x.rest) → x ∈ l → x.k1 ≤ k → x.rest ≤ upK k l
  | [], _, _, h, _ => by cases h
  | a :: l, x, hl, h, hk => by
    rw [upK_cons]
    have h1 := upK_nonneg (k := k) (l := l) fun x hx => hl x (List.mem_cons_of_mem _ hx)
    have h2 := hl a List.mem_cons_self
    rcases List.mem_cons.mp h with e | h
    · rw [← e, if_pos hk]
      omega
    · have := upK_mem (fun x hx => hl x (List.mem_cons_of_mem _ hx)) h hk
      split <;> omega
theorem trim_upK : ∀ {l : List Ord} {t : Int} {x : Ord}, l.Pairwise (fun a b => leO a b = true) → (∀ x ∈ l, 1 ≤ x.rest) → 0 ≤ t → x ∈ trim t l → t + x.rest ≤ upK x.k1 l
  | [], _, _, _, _, _, h => by cases h
  | a :: l, t, x, hp, hl, ht, h => by
    have hl' : ∀ x ∈ l, 1 ≤ x.rest := fun x hx => hl x (List.mem_cons_of_mem _ hx)
    have hp' := (List.pairwise_cons.mp hp).2
    have ha := head_k1 hp
    unfold trim at h
    by_cases e0 : t ≤ 0
    · rw [if_pos e0] at h
      have := upK_mem hl h (Int.le_refl _)
      omega
    · rw [if_neg e0] at h
      by_cases e1 : a.rest ≤ t
      · rw [if_pos e1] at h
        have ih := trim_upK hp' hl' (by omega) h
        obtain ⟨y, hy, k⟩ := trim_like h
        have := ha y (List.mem_cons_of_mem _ hy)
        rw [upK_cons, if_pos (by rw [k.k1]; exact this)]
        omega
      · rw [if_neg e1] at h
        rcases List.mem_cons.mp h with e | h
        · rw [e, (lessen_like a t).k1, upK_cons, if_pos (Int.le_refl _)]
          have h0 := upK_nonneg (k := a.k1) hl'
          have er : (lessen a t).rest = a.rest - t := rfl
          omega
        · rw [upK_cons, if_pos (ha x (List.mem_cons_of_mem _ h))]
          have := upK_mem hl' h (Int.le_refl _)
          omega
/-! ### the end of a call -/
theorem live_trim {b : Ord} {bs : List Ord} {m : Int} (h1 : 1 ≤ m) (h2 : m ≤ b.rest) (hl : ∀ x ∈ bs, 1 ≤ x.rest) : liveO (lessen b m :: bs) = trim m (b :: bs) := by
  rw [liveO_cons (o := lessen b m) hl]
  have er : (lessen b m).rest = b.rest - m := rfl
  show _ = (if m ≤ 0 then b :: bs else if b.rest ≤ m then trim (m - b.rest) bs else lessen b m :: bs)
  rw [if_neg (show ¬ m ≤ 0 by omega)]
  by_cases c : b.rest ≤ m
  · rw [if_neg (show ¬ 0 < (lessen b m).rest by omega), if_pos c, trim_zero (by omega)]
  · rw [if_pos (show 0 < (lessen b m).rest by omega), if_neg c]
structure UInv (n : Int) (R1 R2 : List Ord) (u : US) : Prop where
  le : u.left ≤ n
  buys : u.buys = trim (n - u.left) R1
  sells : u.sells = trim (n - u.left) R2
  ob : ∀ o ∈ u.B.ords, o.buy = true → o ∈ u.buys
  os : ∀ o ∈ u.B.ords, o.buy = false → o ∈ u.sells
theorem uinv_step {p n : Int} {R1 R2 : List Ord} (h1 : ∀ x ∈ R1, 1 ≤ x.rest) (h2 : ∀ x ∈ R2, 1 ≤ x.rest) {u u' : US} {c : CTr} (h : UOk u) (I : UInv n R1 R2 u) (hs : ustep p u = some (c, u')) : UInv n R1 R2 u' := by
  have h0 : 0 < u.left := by
    by_cases h0 : 0 < u.left
    · exact h0
    · rw [ustep_none h0] at hs
      cases hs
  obtain ⟨b, bs, s, ss, eb, es⟩ := h.heads h0
  rw [ustep_some h0 eb es] at hs
  have e := Option.some.inj hs
  have eu : u' = _ := (congrArg Prod.snd e).symm
  clear hs e
  have hb := h.bs b (by rw [eb]; exact List.mem_cons_self)
  have hs := h.ss s (by rw [es]; exact List.mem_cons_self)
  have qb := h.ok.os b hb.1
  have qs := h.ok.os s hs.1
  have ml := least3_le u.left b.rest s.rest
  have mo := least3_or u.left b.rest s.rest
  generalize hm : least3 u.left b.rest s.rest = m at *
  have hbr := qb.rest
  have hsr := qs.rest
  have m1 : 1 ≤ m := by omega
  have lb : ∀ x ∈ bs, 1 ≤ x.rest := fun x hx => (h.ok.os x (h.bs x (by rw [eb]; exact List.mem_cons_of_mem _ hx)).1).rest
  have ls : ∀ x ∈ ss, 1 ≤ x.rest := fun x hx => (h.ok.os x (h.ss x (by rw [es]; exact List.mem_cons_of_mem _ hx)).1).rest
  have le := I.le
  have tb : liveO (lessen b m :: bs) = trim (n - (u.left - m)) R1 := by
    rw [live_trim m1 ml.2.1 lb, ← eb, I.buys, trim_trim (by omega) (by omega) h1]
    congr 1
    omega
  have ts : liveO (lessen s m :: ss) = trim (n - (u.left - m)) R2 := by
    rw [live_trim m1 ml.2.2 ls, ← es, I.sells, trim_trim (by omega) (by omega) h2]
    congr 1
    omega
  have inb : ∀ x, (x = lessen b m ∧ (lessen b m).rest ≠ 0) ∨ x ∈ bs → x ∈ liveO (lessen b m :: bs) := fun x hx => by
    rw [liveO_cons (o := lessen b m) lb]
    have er : (lessen b m).rest = b.rest - m := rfl
    by_cases q : 0 < (lessen b m).rest
    · rw [if_pos q]
      rcases hx with ⟨e, _⟩ | hx
      · rw [e]
        exact List.mem_cons_self
      · exact List.mem_cons_of_mem _ hx
    · rw [if_neg q]
      rcases hx with ⟨_, e⟩ | hx
      · exfalso
        omega
      · exact hx
  have ins : ∀ x, (x = lessen s m ∧ (lessen s m).rest ≠ 0) ∨ x ∈ ss → x ∈ liveO (lessen s m :: ss) := fun x hx => by
    rw [liveO_cons (o := lessen s m) ls]
    have er : (lessen s m).rest = s.rest - m := rfl
    by_cases q : 0 < (lessen s m).rest
    · rw [if_pos q]
      rcases hx with ⟨e, _⟩ | hx
      · rw [e]
        exact List.mem_cons_self
      · exact List.mem_cons_of_mem _ hx
    · rw [if_neg q]
      rcases hx with ⟨_, e⟩ | hx
      · exfalso
        omega
      · exact hx
  rw [eu]
  refine ⟨by show u.left - m ≤ n; omega, tb, ts, fun o ho hbuy => ?_, fun o ho hbuy => ?_⟩
  · rcases mem_takeOff ho with ⟨e, _⟩ | ⟨ho, _⟩
    · rw [e] at hbuy
      have : s.buy = true := hbuy
      rw [hs.2] at this
      cases this
    · rcases mem_takeOff ho with ⟨e, q⟩ | ⟨ho, q⟩
      · exact inb o (.inl ⟨e, q⟩)
      · have := I.ob o ho hbuy
        rw [eb] at this
        rcases List.mem_cons.mp this with e | hx
        · rw [e] at q
          exact absurd rfl q
        · exact inb o (.inr hx)
  · rcases mem_takeOff ho with ⟨e, q⟩ | ⟨ho, q⟩
    · exact ins o (.inl ⟨e, q⟩)
    · rcases mem_takeOff ho with ⟨e, _⟩ | ⟨ho, _⟩
      · rw [e] at hbuy
        have : b.buy = false := hbuy
        rw [hb.2] at this
        cases this
      · have := I.os o ho hbuy
        rw [es] at this
        rcases List.mem_cons.mp this with e | hx
        · rw [e] at q
          exact absurd rfl q
        · exact ins o (.inr hx)
/-- what the steps keep, at their end -/
theorem uiter_end {p : Int} {I : US → Prop} (hs : ∀ u c u', UOk u → I u → ustep p u = some (c, u') → I u') : ∀ (k : Nat) (u : US), UOk u → I u → u.left.toNat ≤ k → UOk (iter (ustep p) k u).2 ∧ I (iter (ustep p) k u).2 ∧ (iter (ustep p) k u).2.left = 0
  | 0, u, h, i, hk => ⟨h, i, by have := h.l0; show u.left = 0; omega⟩
  | k + 1, u, h, i, hk => by
    cases e : ustep p u with
    | none =>
      rw [iter_none e]
      refine ⟨h, i, ?_⟩
      by_cases h0 : 0 < u.left
      · obtain ⟨b, bs, s, ss, eb, es⟩ := h.heads h0
        rw [ustep_some h0 eb es] at e
        cases e
      · have := h.l0
        show u.left = 0
        omega
    | some q =>
      obtain ⟨c, u'⟩ := q
      have o := ustep_ok h e
      have mu := o.mu
      unfold muU at mu
      rw [iter_succ, e]
      exact uiter_end hs k u' o.ok (hs u c u' h i e) (by omega)
theorem wanted_upK {os : List Ord} (hp : ∀ o ∈ os, o.price = some o.pr) (side : Bool) (q : Int) : wanted os side q = upK (if side then -q else q) (row os side) := by
  unfold wanted upK
  congr 2
  refine List.filter_congr fun o ho => ?_
  obtain ⟨h1, h2⟩ := row_mem.mp ho
  unfold Ord.suits
  rw [hp o h1, h2]
  cases side with
  | true =>
    rw [k1_buy h2]
    show decide (q ≤ o.pr) = decide (-o.pr ≤ -q)
    exact decide_eq_decide.mpr (by omega)
  | false =>
    rw [k1_sell h2]
    rfl
/-- what the end of a call leaves -/
structure UncEnd (B B' : Bk) (n : Int) : Prop where
  n0 : 0 ≤ n
  ob : ∀ o ∈ B'.ords, o.buy = true → o ∈ trim n (row B.ords true)
  os : ∀ o ∈ B'.ords, o.buy = false → o ∈ trim n (row B.ords false)
  most : ∀ o ∈ B.ords, imin (wanted B.ords true o.pr) (wanted B.ords false o.pr) ≤ n
theorem uncross_end {B : Bk} (h : BkOk B) : ∃ n, UncEnd B (uncrossB B).2 n := by
  have hr : ∀ o ∈ B.ords, 0 ≤ o.rest := fun o ho => by have := (h.os o ho).rest; omega
  unfold uncrossB
  cases e : callPrice B.ords B.last with
  | none =>
    refine ⟨0, Int.le_refl 0, fun o ho hb => ?_, fun o ho hb => ?_, fun o ho => Int.le_of_eq (callPrice_none hr e o ho)⟩
    · rw [trim_zero (Int.le_refl 0)]
      exact row_mem.mpr ⟨ho, hb⟩
    · rw [trim_zero (Int.le_refl 0)]
      exact row_mem.mpr ⟨ho, hb⟩
  | some q =>
    obtain ⟨p, n⟩ := q
    have k := callPrice_bound hr e
    have r1 : ∀ side, ∀ x ∈ row B.ords side, 1 ≤ x.rest := fun side x hx => (h.os x (row_mem.mp hx).1).rest
    have E := uiter_end (p := p) (I := UInv n (row B.ords true) (row B.ords false)) (fun u c u' hu i hs => uinv_step (r1 true) (r1 false) hu i hs) n.toNat _ (ustart_ok h e)
      ⟨Int.le_refl n, by rw [trim_zero (by show n - n ≤ 0; omega)], by rw [trim_zero (by show n - n ≤ 0; omega)], fun o ho hb => row_mem.mpr ⟨ho, hb⟩, fun o ho hb => row_mem.mpr ⟨ho, hb⟩⟩ (Nat.le_refl _)
    obtain ⟨E1, E2, E3⟩ := E
    refine ⟨n, Int.le_of_lt k.1, fun o ho hb => ?_, fun o ho hb => ?_, callPrice_most e⟩
    · have q1 := E2.ob o ho hb
      have q2 := E2.buys
      rw [E3, Int.sub_zero] at q2
      rw [← q2]
      exact q1
    · have q1 := E2.os o ho hb
      have q2 := E2.sells
      rw [E3, Int.sub_zero] at q2
      rw [← q2]
      exact q1
theorem uncross_nc {B : Bk} (h : BkOk B) : NC (uncrossB B).2.ords := by
  obtain ⟨n, E⟩ := uncross_end h
  have U := uncross_ok h
  intro x hx y hy xb yb
  refine Int.lt_of_not_ge fun hle => ?_
  have hp : ∀ o ∈ B.ords, o.price = some o.pr := fun o ho => (h.os o ho).price
  have r1 : ∀ side, ∀ x ∈ row B.ords side, 1 ≤ x.rest := fun side x hx => (h.os x (row_mem.mp hx).1).rest
  have t1 := trim_upK (row_sorted B.ords true) (r1 true) E.n0 (E.ob x hx xb)
  have t2 := trim_upK (row_sorted B.ords false) (r1 false) E.n0 (E.os y hy yb)
  obtain ⟨x0, hx0, lx, _⟩ := U.within x hx
  have qx := (U.ok.os x hx).rest
  have qy := (U.ok.os y hy).rest
  have w1 := wanted_upK hp true x0.pr
  have w2 := wanted_upK hp false x0.pr
  rw [if_pos rfl] at w1
  rw [if_neg Bool.false_ne_true] at w2
  rw [k1_buy xb, lx.pr] at t1
  rw [k1_sell yb] at t2
  have mono : ∀ {k k' : Int} {l : List Ord}, k ≤ k' → (∀ x ∈ l, 1 ≤ x.rest) → upK k l ≤ upK k' l := by
    intro k k' l hk
    induction l with
    | nil => exact fun _ => Int.le_refl _
    | cons a l ih =>
      intro hl
      rw [upK_cons, upK_cons]
      have := ih fun x hx => hl x (List.mem_cons_of_mem _ hx)
      have := hl a List.mem_cons_self
      by_cases c : a.k1 ≤ k
      · rw [if_pos c, if_pos (Int.le_trans c hk)]
        omega
      · rw [if_neg c]
        split <;> omega
  have t3 := mono (k := y.pr) (k' := x0.pr) (by rw [← lx.pr]; exact hle) (r1 false)
  have m := E.most x0 hx0
  rcases imin_or (wanted B.ords true x0.pr) (wanted B.ords false x0.pr) with e | e <;> omega
/-! ### outside of a call nobody crosses -/
theorem NC.within {os os' : List Ord} (h : NC os) (w : Within os' os) : NC os' := fun x hx y hy xb yb => by
  obtain ⟨x0, h1, l1, _⟩ := w x hx
  obtain ⟨y0, h2, l2, _⟩ := w y hy
  rw [l1.pr, l2.pr]
  exact h x0 h1 y0 h2 (l1.buy ▸ xb) (l2.buy ▸ yb)
/-- where an order that comes stops with something left, no other's price suits it -/
theorem stop_suits {s : Bk × Ord} (h : step1 s = none) (h0 : 0 < s.2.rest) : ∀ y ∈ s.1.ords, y.buy = !s.2.buy → s.2.suits y.pr = false := fun y hy yb => by
  have my := row_mem.mpr ⟨hy, yb⟩
  have rs := row_sorted s.1.ords (!s.2.buy)
  cases e : row s.1.ords (!s.2.buy) with
  | nil =>
    rw [e] at my
    cases my
  | cons one r =>
    have ho : one.buy = !s.2.buy := (row_mem.mp (show one ∈ row s.1.ords (!s.2.buy) by rw [e]; exact List.mem_cons_self)).2
    have hs : s.2.suits one.pr = false := by
      cases q : s.2.suits one.pr with
      | false => rfl
      | true =>
        unfold step1 at h
        rw [if_pos h0, e] at h
        have h : (if s.2.suits one.pr = true then _ else none : Option (Ev × (Bk × Ord))) = none := h
        rw [if_pos q] at h
        by_cases c : one.own = s.2.own
        · rw [if_pos c] at h
          cases h
        · rw [if_neg c] at h
          cases h
    rw [e] at rs my
    have k := head_k1 rs y my
    unfold Ord.suits at hs ⊢
    cases ep : s.2.price with
    | none =>
      rw [ep] at hs
      cases hs
    | some q =>
      rw [ep] at hs
      cases eb : s.2.buy with
      | true =>
        rw [eb] at hs ho yb
        rw [k1_sell ho, k1_sell yb] at k
        have hs := of_decide_eq_false hs
        exact decide_eq_false (by omega)
      | false =>
        rw [eb] at hs ho yb
        rw [k1_buy ho, k1_buy yb] at k
        have hs := of_decide_eq_false hs
        exact decide_eq_false (by omega)
theorem place_nc {B : Bk} (h : BkOk B) {ad : Nat} {owner : Int} {buy : Bool} {price : Option Int} {many : Int} {shows : Option Int} {w : Way} (g : Parts price many shows w) (hc : B.calling = false) (hn : NC B.ords) :
    NC (placeB B (newOrd B ad owner buy price many shows) w).2.ords := by
  obtain ⟨r, hr, e⟩ := place_cases B (newOrd B ad owner buy price many shows) w
  rw [e]
  show NC (if w = .rest ∧ 0 < r.2.2.rest then r.2.1.put r.2.2 else r.2.1 : Bk).ords
  rcases hr with ⟨q, _, _⟩ | ⟨q, hw⟩
  · have m := match_ok (s := (B.next, newOrd B ad owner buy price many shows)) (many_ok h)
    rw [← q] at m
    have n1 : NC r.2.1.ords := hn.within m.within
    by_cases c : w = .rest ∧ 0 < r.2.2.rest
    · rw [if_pos c]
      have st := stop_suits m.stop c.2
      have ep : ∃ p, price = some p := by
        cases e : price with
        | none => exact absurd c.1 (g.pn e)
        | some p => exact ⟨p, rfl⟩
      obtain ⟨p, ep⟩ := ep
      have e1 : r.2.2.price = some p := m.like.price.trans ep
      have e2 : r.2.2.pr = p := by
        unfold Ord.pr
        rw [e1]
        rfl
      have su : ∀ y, r.2.2.suits y = if r.2.2.buy then decide (y ≤ p) else decide (p ≤ y) := fun y => by
        unfold Ord.suits
        rw [e1]
      intro x hx y hy xb yb
      have hx : x ∈ putO r.2.1.ords ({ r.2.2 with place := r.2.1.places + 1 } : Ord).show := hx
      have hy : y ∈ putO r.2.1.ords ({ r.2.2 with place := r.2.1.places + 1 } : Ord).show := hy
      rcases mem_putO hx with ex | ⟨hx, _⟩ <;> rcases mem_putO hy with ey | ⟨hy, _⟩
      · rw [ex] at xb
        rw [ey] at yb
        have xb : r.2.2.buy = true := xb
        have yb : r.2.2.buy = false := yb
        rw [xb] at yb
        cases yb
      · rw [ex] at xb ⊢
        have xb : r.2.2.buy = true := xb
        have k := st y hy (by rw [xb]; exact yb)
        rw [su, xb] at k
        have k := of_decide_eq_false k
        show r.2.2.pr < y.pr
        omega
      · rw [ey] at yb ⊢
        have yb : r.2.2.buy = false := yb
        have k := st x hx (by rw [yb]; exact xb)
        rw [su, yb] at k
        have k := of_decide_eq_false k
        show x.pr < r.2.2.pr
        omega
      · exact n1 x hx y hy xb yb
    · rw [if_neg c]
      exact n1
  · rcases hw with hw | ⟨hw, _⟩
    · rw [hc] at hw
      cases hw
    · rw [if_neg (fun z => by rw [hw] at z; exact absurd z.1 (by decide)), q]
      exact hn
/-- the book's own invariant -/
def Fair (B : Bk) : Prop := B.calling = false → NC B.ords
theorem did_fair {B B' : Bk} {dd : Deed} {a : Ans} (h : BkOk B) (f : Fair B) (d : Did B dd a B') : Fair B' := by
  cases dd with
  | place o b p m s y =>
    rcases d with ⟨_, _, rfl⟩ | ⟨_, _, _, _, rfl⟩ | ⟨g, _, ad, _, rfl⟩
    · exact f
    · exact f
    · intro hc
      rw [(place_ok h g).calling] at hc
      exact place_nc h g hc (f hc)
  | cancel n =>
    rcases d with ⟨o, ho, _, rfl⟩ | ⟨_, _, rfl⟩
    · exact fun hc => (f hc).within (within_drop _ _)
    · exact f
  | change n m =>
    rcases d with ⟨o, ho, hm, _, rfl⟩ | ⟨_, _, _, _, rfl⟩ | ⟨_, _, rfl⟩
    · have C := change_ok h (find_some ho).1 hm
      intro hc
      rw [C.calling] at hc
      intro x hx y hy xb yb
      obtain ⟨x0, h1, l1, _⟩ := C.from_ x hx
      obtain ⟨y0, h2, l2, _⟩ := C.from_ y hy
      rw [l1.pr, l2.pr]
      exact f hc x0 h1 y0 h2 (l1.buy ▸ xb) (l2.buy ▸ yb)
    · exact f
    · exact f
  | call =>
    rcases d with ⟨_, _, rfl⟩ | ⟨_, _, rfl⟩
    · exact fun hc => nomatch hc
    · exact f
  | uncross =>
    rcases d with ⟨_, _, rfl⟩ | ⟨_, _, rfl⟩
    · exact fun _ => uncross_nc h
    · exact f
end FB

set_option maxRecDepth 100000
set_option maxHeartbeats 4000000
/-! The answers as data; what a law with a record keeps from turn to turn. -/
namespace FB
open PySem PySem.Spec PyProof.Rows L2
/-! ### the answers as data -/
def evD : Ev → PyData
  | .trade n p m => .tuple [.str "trade", .int n, .int p, .int m]
  | .out n => .tuple [.str "out", .int n]
def ctD (c : CTr) : PyData := .tuple [.str "trade", .int c.b, .int c.s, .int c.p, .int c.m]
def Ans.data : Ans → PyData
  | .bad => .str "bad"
  | .none => .str "none"
  | .now => .str "now"
  | .placed n es => .tuple [.int n, .list (es.map evD)]
  | .left n => .int n
  | .done => .none
  | .trades cs => .list (cs.map ctD)
theorem dpAll_of {α : Type} {K : PySem.W.Frag} {H : Hp} {F : α → V → Prop} {g : α → PyData} (hF : ∀ x v, F x v → Dp K H v (g x)) : ∀ {l : List α} {vs : List V}, Paired F l vs → DpAll K H vs (l.map g)
  | _, _, .nil => .nil
  | _, _, .cons h t => .cons (hF _ _ h) (dpAll_of hF t)
theorem ev_dp {K : PySem.W.Frag} {H : Hp} {e : Ev} {v : V} (h : EvAt H e v) : Dp K H v (evD e) := by
  obtain ⟨t, rfl, ht⟩ := h
  cases e with
  | trade n p m => exact .tup (.inl (.inl ht)) (.cons (.str _) (.cons (.int n) (.cons (.int p) (.cons (.int m) .nil))))
  | out n => exact .tup (.inl (.inl ht)) (.cons (.str _) (.cons (.int n) .nil))
theorem ct_dp {K : PySem.W.Frag} {H : Hp} {c : CTr} {v : V} (h : CtAt H c v) : Dp K H v (ctD c) := by
  obtain ⟨t, rfl, ht⟩ := h
  exact .tup (.inl (.inl ht)) (.cons (.str _) (.cons (.int _) (.cons (.int _) (.cons (.int _) (.cons (.int _) .nil)))))
theorem ans_dp {K : PySem.W.Frag} {H : Hp} {a : Ans} {v : V} (h : a.At H v) : Dp K H v a.data := by
  cases a with
  | placed n es =>
    obtain ⟨t, r, ys, rfl, ht, hr, p⟩ := h
    exact .tup (.inl (.inl ht)) (.cons (.int n) (.cons (.lst (.inl (.inl hr)) (dpAll_of (F := EvAt H) (g := evD) (fun _ _ => ev_dp) p)) .nil))
  | trades cs =>
    obtain ⟨r, ys, rfl, hr, p⟩ := h
    exact .lst (.inl (.inl hr)) (dpAll_of (F := CtAt H) (g := ctD) (fun _ _ => ct_dp) p)
  | left n => cases (show v = .int n from h); exact .int n
  | done => cases (show v = .non from h); exact .non
  | bad => cases (show v = .str "bad" from h); exact .str _
  | none => cases (show v = .str "none" from h); exact .str _
  | now => cases (show v = .str "now" from h); exact .str _
theorem lay_all {g : PyData → Bool} : ∀ {l : List PyData}, (∀ x ∈ l, PyData.canLay0 x = true) → PyData.canLayAll0 l = true
  | [], _ => rfl
  | x :: l, h => by
    show (PyData.canLay0 x && PyData.canLayAll0 l) = true
    rw [h x List.mem_cons_self, lay_all (g := g) fun y hy => h y (List.mem_cons_of_mem _ hy)]
    rfl
theorem depth_all {n : Nat} : ∀ {l : List PyData}, (∀ x ∈ l, PyData.depth x ≤ n) → PyData.depthAll l ≤ n
  | [], _ => Nat.zero_le _
  | x :: l, h => by
    show max (PyData.depth x) (PyData.depthAll l) ≤ n
    have := h x List.mem_cons_self
    have := depth_all fun y hy => h y (List.mem_cons_of_mem _ hy)
    omega
theorem evD_ok (e : Ev) : PyData.canLay0 (evD e) = true ∧ PyData.depth (evD e) ≤ 1 := by
  cases e with
  | trade n p m => exact ⟨by show (PyData.strOk "trade" && (true && (true && (true && true)))) = true; decide +kernel, by simp [evD, PyData.depth, PyData.depthAll]⟩
  | out n => exact ⟨by show (PyData.strOk "out" && (true && true)) = true; decide +kernel, by simp [evD, PyData.depth, PyData.depthAll]⟩
theorem ctD_ok (c : CTr) : PyData.canLay0 (ctD c) = true ∧ PyData.depth (ctD c) ≤ 1 :=
  ⟨by show (PyData.strOk "trade" && (true && (true && (true && (true && true))))) = true; decide +kernel, by simp [ctD, PyData.depth, PyData.depthAll]⟩
theorem list_shaped {l : List PyData} (h : ∀ x ∈ l, PyData.canLay0 x = true ∧ PyData.depth x ≤ 1) : PyData.canLay0 (.list l) = true ∧ PyData.depth (.list l) ≤ 2 := by
  refine ⟨lay_all (g := fun _ => true) fun x hx => (h x hx).1, ?_⟩
  have := depth_all (n := 1) fun x hx => (h x hx).2
  show PyData.depthAll l + 1 ≤ 2
  omega
theorem ans_shaped (a : Ans) : SeqAt.shaped a.data = true := by
  unfold SeqAt.shaped
  refine Bool.and_eq_true_iff.mpr ?_
  cases a with
  | placed n es =>
    have h := list_shaped (l := es.map evD) fun x hx => by
      obtain ⟨e, _, q⟩ := List.mem_map.mp hx
      rw [← q]
      exact evD_ok e
    refine ⟨?_, decide_eq_true ?_⟩
    · show (true && (PyData.canLay0 (.list (es.map evD)) && true)) = true
      rw [h.1]
      rfl
    · show max 0 (max (PyData.depth (.list (es.map evD))) 0) + 1 ≤ 64
      omega
  | trades cs =>
    have h := list_shaped (l := cs.map ctD) fun x hx => by
      obtain ⟨e, _, q⟩ := List.mem_map.mp hx
      rw [← q]
      exact ctD_ok e
    refine ⟨h.1, decide_eq_true ?_⟩
    show PyData.depth (.list (cs.map ctD)) ≤ 64
    omega
  | _ => exact ⟨by first | rfl | (show PyData.strOk _ = true; decide +kernel), rfl⟩
theorem ans_wrong (a : Ans) : PyData.eqv a.data (.str "wrong") = false := by
  cases a with
  | bad => decide +kernel
  | none => decide +kernel
  | now => decide +kernel
  | _ => rfl
theorem wrong_shaped : SeqAt.shaped (.str "wrong") = true := by decide +kernel
end FB

set_option maxRecDepth 100000
set_option maxHeartbeats 4000000
/-! Plain: rows as the only list in order; what the end of a call leaves, row by row. -/
namespace FB
open PySem PySem.Spec PyProof.Rows L2
theorem trim_sorted : ∀ {l : List Ord} {t : Int}, l.Pairwise (fun a b => leO a b = true) → (trim t l).Pairwise fun a b => leO a b = true
  | [], _, h => h
  | a :: l, t, h => by
    have k := List.pairwise_cons.mp h
    unfold trim
    by_cases e0 : t ≤ 0
    · rw [if_pos e0]
      exact h
    · rw [if_neg e0]
      by_cases e1 : a.rest ≤ t
      · rw [if_pos e1]
        exact trim_sorted k.2
      · rw [if_neg e1]
        exact List.pairwise_cons.mpr ⟨fun x hx => (show leO a x = true from k.1 x hx), k.2⟩
theorem row_unique {os : List Ord} {side : Bool} {l : List Ord} (nd : (os.map (·.num)).Nodup) (h1 : ∀ o ∈ l, o ∈ os ∧ o.buy = side) (h2 : ∀ o ∈ os, o.buy = side → o ∈ l) (nl : (l.map (·.num)).Nodup) (hs : l.Pairwise fun a b => leO a b = true) : row os side = l := by
  have n1 : ∀ {m : List Ord}, (m.map (·.num)).Nodup → m.Nodup := fun {m} h => (List.pairwise_map.mp h).imp fun h e => h (congrArg _ e)
  refine List.Perm.eq_of_pairwise (le := fun a b => leO a b = true) (fun a b ha hb h k => ?_) (row_sorted os side) hs ((List.perm_ext_iff_of_nodup (n1 (nodup_row nd)) (n1 nl)).mpr fun o => ?_)
  · refine nodup_inj nd (row_mem.mp ha).1 (h1 b hb).1 ?_
    rw [leO_iff] at h k
    unfold Lt3 at h k
    omega
  · exact ⟨fun h => h2 o (row_mem.mp h).1 (row_mem.mp h).2, fun h => row_mem.mpr (h1 o h)⟩
theorem iter_len {S E : Type} (step : S → Option (E × S)) : ∀ (n : Nat) (s : S), (iter step n s).1.length ≤ n
  | 0, _ => Nat.le_refl _
  | n + 1, s => by
    rw [iter_succ]
    cases step s with
    | none => exact Nat.zero_le _
    | some q => exact Nat.succ_le_succ (iter_len step n q.2)
theorem unc_len {B : Bk} (h : BkOk B) (hl : B.ords.length ≤ 900) : (uncrossB B).1.length ≤ 9000000 := by
  unfold uncrossB
  cases q : callPrice B.ords B.last with
  | none => exact Nat.zero_le _
  | some w =>
    obtain ⟨p, n⟩ := w
    refine Nat.le_trans (iter_len _ _ _) ?_
    have k := callPrice_bound (fun o ho => by have := (h.os o ho).rest; omega) q
    have r := restSum_le (os := row B.ords true) fun o ho => (h.os o (row_mem.mp ho).1).rmax
    have l := row_len B.ords true
    omega
/-! ### a test: a if c else b -/
def tIfT (t ta tb : TT) : TT := fun σ H Q => t σ H fun c H1 => if c = true then ta σ H1 Q else tb σ H1 Q
theorem pt_ifExp {X : Cx} {c a b : Expr} {pos : Pos} {tA ta tb : TT} (hc : PT X c tA) (ha : PT X a ta) (hb : PT X b tb) : PT X (.IfExp c a b pos) (tIfT tA ta tb) := by
  refine ⟨fun pins s σ H Q I h => ?_⟩
  have e : isTrue (.IfExp c a b pos) X.env (eval (.IfExp c a b pos) X.env) = (do if ← isTrue c X.env (eval c X.env) then isTrue a X.env (eval a X.env) else isTrue b X.env (eval b X.env)) := by rfl
  rw [e]
  refine wpAny_bind (wpAny_mono (hc.run pins s σ H _ I h) (fun d s1 ⟨H1, I1, q1⟩ => ?_) fun _ _ x => x)
  cases d with
  | true => exact ha.run pins s1 σ H1 Q I1 q1
  | false => exact hb.run pins s1 σ H1 Q I1 q1
/-! ### lists of numbers as data -/
theorem ints_shaped (l : List Int) : SeqAt.shaped (.list (l.map PyData.int)) = true := by
  have h := list_shaped (l := l.map PyData.int) fun x hx => by
    obtain ⟨i, _, q⟩ := List.mem_map.mp hx
    rw [← q]
    exact ⟨rfl, Nat.zero_le _⟩
  unfold SeqAt.shaped
  rw [h.1]
  show decide (_ ≤ 64) = true
  exact decide_eq_true (by omega)
theorem eqv_same {d : PyData} (h : SeqAt.shaped d = true) : PyData.eqv d d = true := SeqAt.eqv_refl d (Bool.and_eq_true_iff.mp h).1
theorem two_shaped (l m : List Int) : SeqAt.shaped (.list [.list (l.map PyData.int), .list (m.map PyData.int)]) = true := by
  have one : ∀ l : List Int, PyData.canLay0 (.list (l.map PyData.int)) = true ∧ PyData.depth (.list (l.map PyData.int)) ≤ 2 := fun l => list_shaped fun x hx => by
    obtain ⟨i, _, q⟩ := List.mem_map.mp hx
    rw [← q]
    exact ⟨rfl, Nat.zero_le _⟩
  unfold SeqAt.shaped
  refine Bool.and_eq_true_iff.mpr ⟨?_, decide_eq_true ?_⟩
  · show (PyData.canLay0 (.list (l.map PyData.int)) && (PyData.canLay0 (.list (m.map PyData.int)) && true)) = true
    rw [(one l).1, (one m).1]
    rfl
  · show max (PyData.depth (.list (l.map PyData.int))) (max (PyData.depth (.list (m.map PyData.int))) 0) + 1 ≤ 64
    have h1 := (one l).2
    have h2 := (one m).2
    omega
theorem dpAll_ints {K : PySem.W.Frag} {H : Hp} : ∀ l : List Int, DpAll K H (l.map V.int) (l.map PyData.int)
  | [] => .nil
  | i :: l => .cons (.int i) (dpAll_ints l)
theorem dp_ints {K : PySem.W.Frag} {H : Hp} {p : Addr} {l : List Int} (h : H p = some (.lst (l.map V.int))) : Dp K H (.ref p) (.list (l.map PyData.int)) := .lst (.inl (.inl h)) (dpAll_ints l)
theorem eqv_nil (l : List Int) : PyData.eqv (.list (l.map PyData.int)) (.list []) = l.isEmpty := by cases l <;> rfl
theorem all_true {α : Type} (l : List α) : (l.map fun _ => true).all id = true := by
  induction l with
  | nil => rfl
  | cons a l ih =>
    rw [List.map_cons, List.all_cons, ih]
    rfl
theorem map_true {α : Type} (l : List α) : (l.map fun _ => V.bl true) = (l.map fun _ => true).map V.bl := by
  rw [List.map_map]
  rfl
theorem row_pr (os : List Ord) (side : Bool) : ((row os side).map fun o => V.int o.pr) = ((row os side).map (·.pr)).map V.int := by
  rw [List.map_map]
  rfl
theorem inV_ints (n : Int) : ∀ l : List Int, inV (.int n) (l.map V.int) = decide (n ∈ l)
  | [] => by
    show false = _
    exact (decide_eq_false (by simp)).symm
  | a :: l => by
    show (eqV (.int a) (.int n) || inV (.int n) (l.map V.int)) = _
    rw [inV_ints n l]
    show (a == n || _) = _
    by_cases h : a = n
    · subst h
      rw [beq_self_eq_true, decide_eq_true List.mem_cons_self]
      rfl
    · have e : (a == n) = false := by
        rw [beq_eq_false_iff_ne]
        exact h
      rw [e, Bool.false_or]
      refine decide_eq_decide.mpr ⟨fun k => List.mem_cons_of_mem _ k, fun k => ?_⟩
      rcases List.mem_cons.mp k with z | z
      · exact absurd z.symm h
      · exact z
theorem flat_ints : ∀ l : List Int, (l.map V.int).all flatV = true
  | [] => rfl
  | a :: l => by
    rw [List.map_cons, List.all_cons, flat_ints l]
    rfl
theorem cut_take {xs : List V} {q : Nat} (h : q ≤ xs.length) : cutV xs none (some (q : Int)) = xs.take q := by
  unfold cutV
  rw [HT.sIx_none, HT.sIx_nat, Nat.min_eq_left h]
  rfl
theorem cut_last (xs : List V) : cutV xs none (some (-1)) = xs.dropLast := by
  unfold cutV
  rw [HT.sIx_none, List.dropLast_eq_take]
  show (xs.drop 0).take ((-1 + (xs.length : Int)).toNat - 0) = _
  rw [List.drop_zero]
  congr 1
  omega
theorem dixv {K : PySem.W.Frag} {j l : Nat} {σ : L2.St} {H : Hp} {Q : VK} {t : Addr} {xs : List V} {i : Int} {v : V} (h : σ[j]? = some (some (.ref t))) (hl : σ[l]? = some (some (.int i))) (ht : H t = some (.tup xs)) (e : atI xs i = some v) (q : Q v H) : tOp (rIx K) (tVar j) (tVar l) σ H Q :=
  ⟨_, h, _, hl, .inr (.inl ⟨t, xs, i, v, rfl, rfl, .inl (.inl ht), e, q⟩)⟩
theorem lixv {K : PySem.W.Frag} {j l : Nat} {σ : L2.St} {H : Hp} {Q : VK} {t : Addr} {xs : List V} {i : Int} {v : V} (h : σ[j]? = some (some (.ref t))) (hl : σ[l]? = some (some (.int i))) (ht : H t = some (.lst xs)) (e : atI xs i = some v) (q : Q v H) : tOp (rIx K) (tVar j) (tVar l) σ H Q :=
  ⟨_, h, _, hl, .inl ⟨t, xs, i, v, rfl, rfl, .inl (.inl ht), e, q⟩⟩
theorem lix {K : PySem.W.Frag} {j : Nat} {σ : L2.St} {H : Hp} {Q : VK} {t : Addr} {xs : List V} {i : Int} {v : V} (h : σ[j]? = some (some (.ref t))) (ht : H t = some (.lst xs)) (e : atI xs i = some v) (q : Q v H) : tOp (rIx K) (tVar j) (tC (.int i)) σ H Q :=
  ⟨_, h, .inl ⟨t, xs, i, v, rfl, rfl, .inl (.inl ht), e, q⟩⟩
theorem paired_at {α β : Type} {F : α → β → Prop} : ∀ {l : List α} {m : List β}, Paired F l m → ∀ {i : Nat} {y : β}, m[i]? = some y → ∃ x, l[i]? = some x ∧ F x y
  | _, _, .nil, i, y, h => by cases h
  | _, _, .cons r t, 0, y, h => ⟨_, rfl, by cases h; exact r⟩
  | _, _, .cons r t, i + 1, y, h => paired_at t h
theorem take_next {α : Type} {cs : List α} {i : Nat} {x : α} (h : cs[i]? = some x) : cs.take (i + 1) = cs.take i ++ [x] := by
  rw [List.take_add_one, h]
  rfl
/-- the answer's list of numbers, out of a comprehension over pairs -/
theorem zip_map {α β γ : Type} {l : List α} {m : List β} {f : α → γ} (h : m.length = l.length) : ((l.zip m).map fun z => f z.1) = l.map f := by
  have e : (l.zip m).map (fun z => f z.1) = ((l.zip m).map Prod.fst).map f := by
    rw [List.map_map]
    rfl
  rw [e, zip_fst h]
theorem zip_filter {α β γ : Type} {q : α → Bool} {f : α → γ} : ∀ {l : List α} {m : List β}, m.length = l.length → ((l.zip m).filter fun z => q z.1).map (fun z => f z.1) = (l.filter q).map f
  | [], [], _ => rfl
  | a :: l, b :: m, h => by
    rw [List.zip_cons_cons, List.filter_cons, List.filter_cons]
    have ih := zip_filter (q := q) (f := f) (l := l) (m := m) (by simpa using h)
    by_cases c : q a = true
    · rw [if_pos c, if_pos c, List.map_cons, List.map_cons, ih]
    · rw [if_neg c, if_neg c, ih]
theorem evs_shaped (es : List Ev) : SeqAt.shaped (.list (es.map evD)) = true := by
  have h := list_shaped (l := es.map evD) fun x hx => by
    obtain ⟨e, _, q⟩ := List.mem_map.mp hx
    rw [← q]
    exact evD_ok e
  unfold SeqAt.shaped
  rw [h.1]
  show decide (_ ≤ 64) = true
  exact decide_eq_true (by omega)
theorem eqv_none {α : Type} (g : α → PyData) (l : List α) : PyData.eqv (.list (l.map g)) (.list []) = l.isEmpty := by cases l <;> rfl
end FB

set_option maxRecDepth 100000
set_option maxHeartbeats 4000000
set_option pp.maxSteps 400
/-! sorted(xs, key=f), f a def of the text: the promise of f is asked of each item. -/
namespace FB
open PySem PySem.Spec PyProof.Rows L2
def pairK (z : Int × Int) : PyData := .tuple [.int z.1, .int z.2]
/-- sorted by f's pairs -/
def rSortedF (K : PySem.W.Frag) (f : Addr) (sp : Sp) : List V → List V → Hp → VK → Prop := fun vs ks H Q => ∃ (a : Addr) (α : Type) (zs : List α) (val : α → V) (ky : α → Int × Int), vs = [V.ref a] ∧ ks = [V.ref f] ∧ SqL K H a (zs.map val) ∧
  (∀ z ∈ zs, ∀ H1, L2.Same H H1 → ∀ Qk : VK, (∀ t H2, L2.Same H1 H2 → H2 t = some (.tup [.int (ky z).1, .int (ky z).2]) → Qk (.ref t) H2) → sp [val z] H1 Qk E0) ∧
  ∀ H1 p, L2.Same H H1 → H p = none → H1 p = some (.lst ((zs.mergeSort (PySem.W.dataLe false fun z => pairK (ky z))).map val)) → Q (.ref p) H1
theorem each_keys {X : Cx} {pins : List (Addr × Obj)} {σ : L2.St} {H : Hp} {s : Shared} (I : Inv X pins σ H s) {α : Type} {ky : α → Int × Int} : ∀ {zs : List α} {ts : List Addr}, Paired (fun z t => H t = some (.tup [.int (ky z).1, .int (ky z).2])) zs ts →
    PySem.W.EachIs (fun v d => ∃ as, Reads s.heap v d as) (ts.map Value.ref) (zs.map fun z => pairK (ky z))
  | _, _, .nil => .nil
  | _, _, .cons r t => .cons (Dp.reads I _ _ _ (.tup (.inl (.inl r)) (.cons (.int _) (.cons (.int _) .nil))) rfl) (each_keys I t)
theorem vals_get {α : Type} {val : α → V} : ∀ {zs : List α} {us : List Value} {j : Nat} {u : Value}, Vals (zs.map val) us → us[j]? = some u → ∃ z, zs[j]? = some z ∧ RelV (val z) u
  | [], us, j, u, h, e => by
    have h : Vals [] us := h
    cases h
    cases e
  | z :: zs, us, j, u, h, e => by
    have h : Vals (val z :: zs.map val) us := h
    cases h with
    | cons r t =>
      cases j with
      | zero =>
        cases e
        exact ⟨z, rfl, r⟩
      | succ j =>
        obtain ⟨z', hz, r'⟩ := vals_get (j := j) t (by simpa using e)
        exact ⟨z', by simpa using hz, r'⟩
/-- the heap without what stands at c -/
def without (h : Heap) (c : Addr) : Heap := h.update c fun o => { o with data := .freed }
theorem without_at {h : Heap} {c : Addr} : (without h c).get? c = none := by
  unfold without Heap.update Heap.get?
  simp only [Array.getElem?_modify]
  rw [if_pos trivial]
  cases h.objs[c]? <;> rfl
theorem un_off {fs : List Addr} {H H' : Hp} {h h' h'' : Heap} {c : Addr} (u : Un fs [] H H' h h') (hc : h.get? c = none) (k : ∀ b, b ≠ c → h''.get? b = h'.get? b) : Un fs [] H H' h h'' := by
  have ne : ∀ {b o}, h.get? b = some o → b ≠ c := fun e z => by
    rw [z, hc] at e
    cases e
  refine ⟨fun b o e n hf hx => ?_, fun b o e n hf hx => ?_, u.free, fun b o e hx => ?_, u.tups, u.frzs, u.tbls⟩
  · rw [k b (ne e)]
    exact u.keep b o e n hf hx
  · obtain ⟨sl, q⟩ := u.slot b o e n hf hx
    exact ⟨sl, by rw [k b (ne e)]; exact q⟩
  · obtain ⟨o', q⟩ := u.there b o e hx
    exact ⟨o', by rw [k b (ne e)]; exact q⟩
theorem hok_off {P : Program} {w : World} {H : Hp} {h h' : Heap} (x : HOk P w H h) (k : ∀ b u, (∃ o, H b = some o) → h.get? b = some u → h'.get? b = some u) : HOk P w H h' := fun a o e =>
  (x a o e).stay (fun b u hb q => k b u (hb.elim (fun z => ⟨o, by rw [z]; exact e⟩) fun z => ⟨_, z⟩) q) (fun _ q => q) fun _ _ q => q
theorem cr_sortedF {X : Cx} {k : Nat} {f : Addr} {fd : FuncData} {ps : List Str} {sp : Sp} (F : FnOk X.prog X.w X.K X.mg X.base CX0 k f fd ps sp) (hb : Binds X.K fd ps []) (hr : Room (k + 2) X.A) : CallRK X (.builtin "sorted") [Str.ofString "key"] (rSortedF X.K f sp) := by
  intro pins s σ H vs ks us ws Q I r rz h
  obtain ⟨a, α, zs, val, ky, rfl, rfl, hs, hsp, q⟩ := h
  obtain ⟨its, rv, hl, hz⟩ := I.list hs
  obtain rfl := Vals.ref1 r
  obtain ⟨w1, rfl, e1⟩ := vals1 rz
  obtain rfl : w1 = Value.ref f := e1
  have hlen : its.length = zs.length := by rw [← rv.length, List.length_map]
  have hz' : its.length ≤ sizeLine := by
    rw [hlen]
    rw [List.length_map] at hz
    exact hz
  show wpAny _ _ (call (.builtin "sorted") [.ref a] [(Str.ofString "key", .ref f)]) _ _ _
  refine PySem.W.sorted_of_sort hl.isList hz' (PyProof.Rows.ksk_s1 _ _) (fun _ => PyProof.Rows.ksk_l1 _ _) (fun E' => ?_)
  rw [PyProof.Rows.ksk_t1]
  have ho := PySem.W.copyHeap_at s.heap its
  have hold : ∀ b o, s.heap.get? b = some o → (PySem.W.copyHeap s.heap its).get? b = some o := fun b o e => PySem.W.copyHeap_old e
  have hDn : s.heap.get? (s.heap.objs.size + 1) = none := Heap.get?_none_of_le (Nat.le_succ _)
  have hDn' : s.heap.objs.size ≤ s.heap.objs.size + 1 := Nat.le_succ _
  generalize s.heap.objs.size + 1 = D at ho hDn hDn' ⊢
  generalize PySem.W.copyHeap s.heap its = h1 at ho hold ⊢
  have hD1 : D < h1.objs.size := Heap.lt_size ho
  obtain ⟨e1, ho1⟩ : ∃ e1, (h1.update D (Obj.mapSeq fun _ => (#[] : Array Value))).get? D = some (seqObj "list" #[] e1) := ⟨_, get?_update_seq ho fun _ => #[]⟩
  unfold PyProof.Rows.ksk_tree
  refine wpAny_bind (listItems_at ho rfl ?_)
  refine wpAny_bind (listUpdate_at ho rfl ?_ (by rw [List.size_toArray]; exact hz') (Nat.zero_le _))
  refine wpAny_bind (seqEpoch_at ho1 rfl ?_)
  refine wpAny_bind (wpAny_newTuple ?_ hz')
  refine wpAny_bind (wpAny_newList ?_ (Nat.zero_le _))
  refine wpAny_holding ?_
  have hkS : ((h1.update D (Obj.mapSeq fun _ => (#[] : Array Value))).push (seqObj "tuple" its.toArray 0)).objs.size = h1.objs.size + 1 := by rw [size_push', Heap.size_update]
  have k2 : ∀ b o, s.heap.get? b = some o → (PySem.W.sortingHeap h1 D its).get? b = some o := fun b o e => PySem.W.sortingHeap_old (fun z => by rw [z, hDn] at e; cases e) (hold b o e)
  have hnk : (PySem.W.sortingHeap h1 D its).get? (h1.objs.size + 1) = some (seqObj "list" #[] 0) := by
    unfold PySem.W.sortingHeap
    rw [← hkS]
    exact Heap.get?_push_size _ rfl
  have hna : (PySem.W.sortingHeap h1 D its).get? D = some (seqObj "list" #[] e1) := Heap.get?_push_of_some _ (Heap.get?_push_of_some _ ho1)
  have hkn : s.heap.get? (h1.objs.size + 1) = none := by
    cases q : s.heap.get? (h1.objs.size + 1) with
    | none => rfl
    | some o =>
      exact absurd (Heap.lt_size (hold _ _ q)) (Nat.not_lt.mpr (Nat.le_succ _))
  rw [hkS]
  show wpAny _ _ (PyProof.Rows.ksk_rest D (.ref f) false its.toArray e1 (.ref (h1.objs.size + 1))) _ _ { s with heap := PySem.W.sortingHeap h1 D its }
  have hkn' : s.heap.objs.size ≤ h1.objs.size + 1 := Nat.le_trans hDn' (Nat.le_of_lt (Nat.lt_succ_of_lt hD1))
  have hne : h1.objs.size + 1 ≠ D := Nat.ne_of_gt (Nat.lt_succ_of_lt hD1)
  generalize h1.objs.size + 1 = kS at hnk hkn hkn' hne ⊢
  generalize PySem.W.sortingHeap h1 D its = h2 at k2 hnk hna ⊢
  have offs : ∀ c, s.heap.get? c = none → c ∉ frs X.stack := fun c hc hm => by
    obtain ⟨_, o', e', _⟩ := I.env0.funs.mem hm
    rw [hc] at e'
    cases e'
  let J : Nat → Shared → Prop := fun j s' => s'.os = s.os ∧ AllBare s'.gens ∧ ∃ (H' : Hp) (kA : Array Value) (e : Nat) (ts : List Addr), Un (frs X.stack) [] H H' s.heap s'.heap ∧ HOk X.prog X.w H' s'.heap ∧ L2.Same H H' ∧ H' kS = none ∧ H' D = none ∧
    s'.heap.get? kS = some (seqObj "list" kA e) ∧ s'.heap.get? D = some (seqObj "list" #[] e1) ∧ kA.toList = ts.map Value.ref ∧ Paired (fun z t => H' t = some (.tup [.int (ky z).1, .int (ky z).2])) (zs.take j) ts
  have toI : ∀ {s' : Shared} {H' : Hp}, s'.os = s.os → AllBare s'.gens → Un (frs X.stack) [] H H' s.heap s'.heap → HOk X.prog X.w H' s'.heap → L2.Inv X pins σ H' s' := fun {s' H'} a1 a2 a3 a4 => by
    obtain ⟨hh, g, d, t, os'⟩ := s'
    obtain rfl : os' = s.os := a1
    exact I.call (ch := []) a3 a4 a2 (fun b z => nomatch z)
  unfold PyProof.Rows.ksk_rest
  refine wpAny_bind (wpAny_rule ?_)
  rw [List.forIn_toArray]
  have u0 : Un (frs X.stack) [] H H s.heap h2 := ⟨fun b o e _ _ _ => k2 b o e, fun b o e _ _ _ => ⟨o.slots, k2 b o e⟩, fun _ _ _ n _ => n, fun b o e _ => ⟨o, k2 b o e⟩, fun _ _ e => e, fun _ _ _ e => e, fun b ps e => ⟨#[], by rw [e]; simp⟩⟩
  refine wpAny_bind (PyProof.Rows.ksk_fold J its 0 _ ⟨rfl, I.bare, H, #[], 0, [], u0, I.hok.kept k2, L2.Same.refl H, I.hok.fresh hkn', I.hok.fresh hDn', hnk, hna, rfl, .nil⟩ ?_ ?_)
  · rintro j x s' hx ⟨q1, q2, H', kA, e, ts, un, hok', sm, nkS, nD, gkS, gD, ekA, pr⟩
    simp only [Nat.zero_add] at pr ⊢
    obtain ⟨z, hzj, rz⟩ := vals_get rv hx
    have mz : z ∈ zs := List.mem_of_getElem? hzj
    have I' := toI q1 q2 un hok'
    have hsp' := hsp z mz H' sm (fun v H2 => ∃ t, v = V.ref t ∧ L2.Same H' H2 ∧ H2 t = some (.tup [.int (ky z).1, .int (ky z).2])) fun t H2 s2 ht => ⟨t, rfl, s2, ht⟩
    have hl1 : ([x] ++ ([] : List Value)).length = ps.length := F.len _ _ _ _ hsp'
    have hcall : wpAny (model X.prog X.w) X.A.in1.in1 (call (.ref f) [x]) (fun u s'' => CE X.stack X.prog X.w H' s' (fun v H2 => ∃ t, v = V.ref t ∧ L2.Same H' H2 ∧ H2 t = some (.tup [.int (ky z).1, .int (ky z).2])) u s'') (fun _ _ => False) s' := by
      refine wpAny_call (codeAny_mono (F.run X.A.in1.in1 X.stack s' H' ⟨[x], []⟩ [x] [val z] _ E0 hr.in1.in1 I'.env0.in1.in1 (hb s' [x] I'.kIn hl1) (.cons rz .nil) hsp') fun r s'' hq => ?_)
      cases r with
      | error e => exact hq
      | ok fl =>
        cases fl with
        | ret u => exact hq
        | next => exact False.elim hq
        | brk => exact False.elim hq
        | cont => exact False.elim hq
    refine wpAny_bind (wpAny_attempt (wpAny_mono hcall (fun u s'' ce => ?_) fun _ _ hF => hF.elim))
    obtain ⟨v, H2, os2, bare2, un2, hok2, ru, t, rfl, sm2, ht2⟩ := ce
    obtain rfl : u = Value.ref t := ru
    have gk2 := un2.keep kS _ gkS nkS (offs kS hkn) (by simp)
    have gD2 := un2.keep D _ gD nD (offs D hDn) (by simp)
    have nk2 := un2.free kS _ gkS nkS (by simp)
    have nD2 := un2.free D _ gD nD (by simp)
    have hsz : kA.size ≤ sizeLine := by
      have l1 : kA.toList.length = ts.length := by rw [ekA, List.length_map]
      have l2 := paired_len pr
      have l3 := List.length_take_le' j zs
      rw [Array.length_toList] at l1
      omega
    obtain ⟨c2, hc2⟩ : ∃ c2, (s''.heap.update kS (Obj.mapSeq (·.push (Value.ref t)))).get? kS = some (seqObj "list" (kA.push (Value.ref t)) c2) := ⟨_, get?_update_seq gk2 (·.push (Value.ref t))⟩
    have off : ∀ b, b ≠ kS → (s''.heap.update kS (Obj.mapSeq (·.push (Value.ref t)))).get? b = s''.heap.get? b := fun b hb => Heap.get?_update_ne _ _ _ _ hb
    try dsimp only
    refine wpAny_bind (listUpdate_at gk2 rfl ?_ hsz (by rw [Array.size_push]; omega))
    refine wpAny_pure ⟨rfl, os2.trans q1, bare2, H2, kA.push (Value.ref t), c2, ts ++ [t], un_off (un.trans un2) hkn off, hok_off hok2 fun b u ⟨o, hb⟩ e => ?_, sm.trans sm2, nk2, nD2, hc2, ?_, ?_, ?_⟩
    · rw [off b (fun z => by rw [z, nk2] at hb; cases hb)]
      exact e
    · rw [off D (Ne.symm hne)]
      exact gD2
    · rw [Array.toList_push, ekA, List.map_append]
      rfl
    · rw [take_next hzj]
      exact paired_snoc (paired_map (fun _ _ h => sm2 _ _ h) pr) ht2
  · rintro s' ⟨q1, q2, H', kA, e, ts, un, hok', sm, nkS, nD, gkS, gD, ekA, pr⟩
    simp only [Nat.zero_add] at pr
    rw [hlen, List.take_length] at pr
    have I' := toI q1 q2 un hok'
    refine wpAny_bind (listItems_at gkS rfl ?_)
    have ek : PySem.W.EachIs (fun v d => ∃ as, Reads s'.heap v d as) kA.toList (zs.map fun z => pairK (ky z)) := by
      rw [ekA]
      exact each_keys I' pr
    have hal : PySem.W.AllAlike (zs.map fun z => pairK (ky z)) := PySem.W.AllAlike.of (fun b b' => by unfold pairK; simp [PySem.W.alike, PySem.W.alikeAll])
    have hsk : PySem.W.Sortable (zs.map fun z => pairK (ky z)) := PySem.W.Sortable.tuples fun b => ⟨_, _, rfl⟩
    have hu := hr.in1.in1.units
    have hud : ∀ d, d ∈ zs.map (fun z => pairK (ky z)) → X.A.in1.in1.units + d.depth < cLine := fun d hd => by
      obtain ⟨z, _, e⟩ := List.mem_map.mp hd
      have : d.depth = 1 := by
        rw [← e]
        rfl
      omega
    have hks : kA.size = its.length := by
      have l1 : kA.toList.length = ts.length := by rw [ekA, List.length_map]
      rw [← Array.length_toList, l1, paired_len pr, hlen]
    have koff : ∀ b, b ≠ kS → (without s'.heap kS).get? b = s'.heap.get? b := fun b hb => Heap.get?_update_ne _ _ _ _ hb
    have kp : PySem.W.KeepsBut D (without s'.heap kS) s'.heap := fun b o hbD e => by
      rw [← koff b (fun z => by rw [z, without_at] at e; cases e)]
      exact e
    refine PySem.W.keyH_end (h₁ := without s'.heap kS) kp without_at gkS gD hne (PySem.W.SortsAt.data ek hal hsk hud) hks hz' (fun h3 tk3 c kk n3 => ⟨rfl, ?_⟩)
    have eo := PySem.W.keyedOut_each (rev := false) (R := fun u z => RelV (val z) u) (fun z => pairK (ky z)) ⟨s'.heap, kA.toList, hal, rfl, ek⟩ (vals_each rv)
    have keep3 : ∀ b u, b ≠ kS → b ≠ D → s'.heap.get? b = some u → h3.get? b = some u := fun b u n1 n2 e => kk b u n2 (by rw [koff b n1]; exact e)
    have old3 : ∀ b o, s.heap.get? b = some o → b ≠ kS ∧ b ≠ D := fun b o e => ⟨(fun z => by rw [z, hkn] at e; cases e), (fun z => by rw [z, hDn] at e; cases e)⟩
    have inn : ∀ b o, H b = some o → b ≠ D := fun b o e z => by
      rw [z, I.hok.fresh hDn'] at e
      cases e
    have lenO : ((zs.mergeSort (PySem.W.dataLe false fun z => pairK (ky z))).map val).length ≤ sizeLine := by
      rw [List.length_map, List.length_mergeSort, ← hlen]
      exact hz'
    have unF : Un (frs X.stack) [] H (upd H' D (.lst ((zs.mergeSort (PySem.W.dataLe false fun z => pairK (ky z))).map val))) s.heap h3 := by
      refine ⟨fun b o e n hf hx => ?_, fun b o e n hf hx => ?_, fun b o e n hx => ?_, fun b o e hx => ?_, fun b l e => ?_, fun b o u e => ?_, fun b l e => ?_⟩
      · exact keep3 b o (old3 b o e).1 (old3 b o e).2 (un.keep b o e n hf hx)
      · obtain ⟨sl, q⟩ := un.slot b o e n hf hx
        exact ⟨sl, keep3 b _ (old3 b o e).1 (old3 b o e).2 q⟩
      · rw [upd_ne (old3 b o e).2]
        exact un.free b o e n hx
      · obtain ⟨o', q⟩ := un.there b o e hx
        exact ⟨o', keep3 b _ (old3 b o e).1 (old3 b o e).2 q⟩
      · rw [upd_ne (inn b _ e)]
        exact un.tups b l e
      · rw [upd_ne (inn b _ e)]
        exact un.frzs b o u e
      · rw [upd_ne (inn b _ e)]
        exact un.tbls b l e
    have hokF : HOk X.prog X.w (upd H' D (.lst ((zs.mergeSort (PySem.W.dataLe false fun z => pairK (ky z))).map val))) h3 := fun b o e => by
      by_cases hb : b = D
      · rw [hb, upd_same] at e
        cases e
        rw [hb]
        exact ⟨lenO, _, c, each_vals eo, n3⟩
      · rw [upd_ne hb] at e
        have nD' : ∀ {c u}, H' c = some u → c ≠ D := fun q z => by
          rw [z, nD] at q
          cases q
        have nk' : ∀ {c u}, H' c = some u → c ≠ kS := fun q z => by
          rw [z, nkS] at q
          cases q
        refine (hok' b o e).stay (fun c v hc q => ?_) (fun c q => by rw [upd_ne (nD' q)]; exact q) (fun c xs q => by rw [upd_ne (nD' q)]; exact q)
        rcases hc with z | z
        · rw [z] at q ⊢
          exact keep3 b v (nk' e) hb q
        · exact keep3 c v (nk' z) (nD' z) q
    have IF : L2.Inv X pins σ (upd H' D (.lst ((zs.mergeSort (PySem.W.dataLe false fun z => pairK (ky z))).map val))) { s' with heap := h3, toks := tk3 } := toI q1 q2 unF hokF
    refine ⟨.ref D, _, IF, rfl, q _ D (fun b o e => ?_) (I.hok.fresh hDn') upd_same⟩
    rw [upd_ne (inn b o e)]
    exact sm b o e
end FB

set_option maxRecDepth 100000
set_option maxHeartbeats 4000000
set_option pp.maxSteps 400
/-! The law's own book: a book whose orders stand elsewhere and in another order. -/
namespace FB
open PySem PySem.Spec PyProof.Rows L2
def strip (o : Ord) : Ord := { o with ad := 0 }
structure Eqv (B W : Bk) : Prop where
  os : (B.ords.map strip).Perm (W.ords.map strip)
  many : W.many = B.many
  places : W.places = B.places
  last : W.last = B.last
  traded : W.traded = B.traded
  calling : W.calling = B.calling
theorem strip_num (os : List Ord) : (os.map strip).map (·.num) = os.map (·.num) := by
  rw [List.map_map]
  rfl
theorem strip_eq {a b : Ord} (h : strip a = strip b) : a.num = b.num ∧ a.own = b.own ∧ a.buy = b.buy ∧ a.price = b.price ∧ a.rest = b.rest ∧ a.shows = b.shows ∧ a.part = b.part ∧ a.place = b.place := by
  unfold strip at h
  injection h with _ h1 h2 h3 h4 h5 h6 h7 h8
  exact ⟨h1, h2, h3, h4, h5, h6, h7, h8⟩
theorem Eqv.find {B W : Bk} (h : Eqv B W) {o : Ord} (ho : o ∈ B.ords) : ∃ x ∈ W.ords, strip x = strip o := by
  have m := h.os.mem_iff.mp (List.mem_map.mpr ⟨o, ho, rfl⟩)
  obtain ⟨x, hx, e⟩ := List.mem_map.mp m
  exact ⟨x, hx, e⟩
theorem Eqv.back {B W : Bk} (h : Eqv B W) {x : Ord} (hx : x ∈ W.ords) : ∃ o ∈ B.ords, strip o = strip x := by
  have m := h.os.mem_iff.mpr (List.mem_map.mpr ⟨x, hx, rfl⟩)
  obtain ⟨o, ho, e⟩ := List.mem_map.mp m
  exact ⟨o, ho, e⟩
theorem Eqv.ok {B W : Bk} (h : Eqv B W) (ok : BkOk B) : BkOk W := by
  have hn : (W.ords.map (·.num)).Nodup := by
    rw [← strip_num]
    refine ((h.os.map (·.num)).nodup_iff).mp ?_
    rw [strip_num]
    exact ok.ndn
  have hp : (W.ords.map (·.place)).Nodup := by
    have e : ∀ os : List Ord, (os.map strip).map (·.place) = os.map (·.place) := fun os => by
      rw [List.map_map]
      rfl
    rw [← e]
    refine ((h.os.map (·.place)).nodup_iff).mp ?_
    rw [e]
    exact ok.ndp
  refine ⟨fun x hx => ?_, hn, hp, by rw [h.many]; exact ok.many0, by rw [h.places]; exact ok.places0⟩
  obtain ⟨o, ho, e⟩ := h.back hx
  have q := ok.os o ho
  obtain ⟨e1, e2, e3, e4, e5, e6, e7, e8⟩ := strip_eq e
  have ep : x.pr = o.pr := by
    unfold Ord.pr
    rw [e4]
  rw [h.many, h.places]
  exact ⟨by rw [← e4, ep]; exact q.price, by rw [ep]; exact q.prb, by rw [← e5]; exact q.rest, by rw [← e5]; exact q.rmax, by rw [← e7]; exact q.part, by rw [← e7, ← e5]; exact q.ple, fun s hs => q.shows s (by rw [e6]; exact hs), by rw [← e1]; exact q.num0, by rw [← e1]; exact q.num, by rw [← e8]; exact q.pl0, by rw [← e8]; exact q.pl⟩
theorem Eqv.len {B W : Bk} (h : Eqv B W) : W.ords.length = B.ords.length := by
  have := h.os.length_eq
  rw [List.length_map, List.length_map] at this
  exact this.symm
/-- the rows are alike -/
theorem Eqv.rows {B W : Bk} (h : Eqv B W) (ok : BkOk B) (side : Bool) : (row W.ords side).map strip = (row B.ords side).map strip := by
  have srt : ∀ os : List Ord, ((row os side).map strip).Pairwise fun a b => leO a b = true := fun os => List.pairwise_map.mpr (row_sorted os side)
  have prm : ∀ os : List Ord, ((row os side).map strip).Perm ((os.map strip).filter fun o => o.buy == side) := fun os => by
    rw [List.filter_map]
    exact (List.mergeSort_perm _ leO).map strip
  refine List.Perm.eq_of_pairwise (le := fun a b => leO a b = true) (fun a b ha hb h1 h2 => ?_) (srt _) (srt _) ((prm _).trans ((h.os.symm.filter _).trans (prm _).symm))
  have ha' := (List.mem_filter.mp ((prm _).mem_iff.mp ha)).1
  have hb' := (List.mem_filter.mp ((prm _).mem_iff.mp hb)).1
  refine nodup_inj (f := (·.num)) (by rw [strip_num]; exact ok.ndn) (h.os.mem_iff.mpr ha') hb' ?_
  rw [leO_iff] at h1 h2
  unfold Lt3 at h1 h2
  omega
/-- what is reckoned of an order without where it stands -/
theorem map_strip {β : Type} {f : Ord → β} (hf : ∀ o, f (strip o) = f o) {l m : List Ord} (h : l.map strip = m.map strip) : l.map f = m.map f := by
  have e : ∀ l : List Ord, l.map f = (l.map strip).map f := fun l => by
    rw [List.map_map]
    exact List.map_congr_left fun o _ => (hf o).symm
  rw [e l, e m, h]
theorem filter_strip {q : Ord → Bool} (hq : ∀ o, q (strip o) = q o) {l m : List Ord} (h : l.map strip = m.map strip) : (l.filter q).map strip = (m.filter q).map strip := by
  have e : ∀ l : List Ord, (l.filter q).map strip = (l.map strip).filter q := fun l => by
    rw [List.filter_map]
    congr 1
    exact List.filter_congr fun o _ => (hq o).symm
  rw [e l, e m, h]
theorem Eqv.wanted {B W : Bk} (h : Eqv B W) (ok : BkOk B) (side : Bool) (p : Int) : FB.wanted W.ords side p = FB.wanted B.ords side p := by
  unfold FB.wanted
  rw [map_strip (f := (·.rest)) (fun _ => rfl) (filter_strip (q := fun o => o.suits p) (fun _ => rfl) (h.rows ok side))]
theorem Eqv.rank {B W : Bk} (h : Eqv B W) (ok : BkOk B) (p : Int) : FB.rank W.ords W.last p = FB.rank B.ords B.last p := by
  unfold FB.rank
  rw [h.wanted ok, h.wanted ok, h.last]
theorem Eqv.resting {B W : Bk} (h : Eqv B W) (ok : BkOk B) (side : Bool) : FB.resting W.ords side = FB.resting B.ords side := map_strip (fun _ => rfl) (h.rows ok side)
/-! ### what is done to both -/
theorem Eqv.drop {B W : Bk} (h : Eqv B W) (n : Int) : Eqv { B with ords := dropO B.ords n } { W with ords := dropO W.ords n } := by
  refine ⟨?_, h.many, h.places, h.last, h.traded, h.calling⟩
  have e : ∀ os : List Ord, (dropO os n).map strip = (os.map strip).filter fun x => decide (x.num ≠ n) := fun os => by
    rw [List.filter_map]
    rfl
  show ((dropO B.ords n).map strip).Perm ((dropO W.ords n).map strip)
  rw [e, e]
  exact h.os.filter _
theorem Eqv.upd {B W : Bk} (h : Eqv B W) {o o' : Ord} (e : strip o = strip o') : Eqv { B with ords := updO B.ords o } { W with ords := updO W.ords o' } := by
  refine ⟨?_, h.many, h.places, h.last, h.traded, h.calling⟩
  have en := (strip_eq e).1
  have e1 : ∀ (os : List Ord) (p : Ord), (updO os p).map strip = (os.map strip).map fun x => if x.num = p.num then strip p else x := fun os p => by
    unfold updO
    rw [List.map_map, List.map_map]
    refine List.map_congr_left fun x _ => ?_
    show strip (if x.num = p.num then p else x) = if x.num = p.num then strip p else strip x
    split <;> rfl
  show ((updO B.ords o).map strip).Perm ((updO W.ords o').map strip)
  rw [e1, e1, e, en]
  exact h.os.map _
theorem updO_perm : ∀ {os : List Ord} {o : Ord}, (os.map (·.num)).Nodup → (∃ x ∈ os, x.num = o.num) → (updO os o).Perm (dropO os o.num ++ [o])
  | [], _, _, h => by
    obtain ⟨_, h, _⟩ := h
    cases h
  | a :: os, o, hn, h => by
    have e1 : updO (a :: os) o = (if a.num = o.num then o else a) :: updO os o := rfl
    have e2 : dropO (a :: os) o.num = if a.num ≠ o.num then a :: dropO os o.num else dropO os o.num := by
      unfold dropO
      rw [List.filter_cons]
      simp
    rw [List.map_cons, List.nodup_cons] at hn
    rw [e1, e2]
    by_cases c : a.num = o.num
    · have none : ∀ x ∈ os, x.num ≠ o.num := fun x hx z => hn.1 (List.mem_map.mpr ⟨x, hx, by rw [z, c]⟩)
      have ed : dropO os o.num = os := by
        unfold dropO
        exact List.filter_eq_self.mpr fun x hx => decide_eq_true (none x hx)
      rw [if_pos c, if_neg (fun z => z c), updO_none none, ed]
      exact (List.perm_append_singleton o os).symm
    · rw [if_neg c, if_pos c]
      obtain ⟨x, hx, ex⟩ := h
      rcases List.mem_cons.mp hx with z | hx
      · rw [z] at ex
        exact absurd ex c
      · exact (updO_perm hn.2 ⟨x, hx, ex⟩).cons a
theorem putO_perm {os : List Ord} {o : Ord} (hn : (os.map (·.num)).Nodup) : (putO os o).Perm (dropO os o.num ++ [o]) := by
  by_cases q : ∃ y ∈ os, y.num = o.num
  · rw [putO_there q]
    exact updO_perm hn q
  · have q' : ∀ x ∈ os, x.num ≠ o.num := fun y hy e => q ⟨y, hy, e⟩
    have ed : dropO os o.num = os := by
      unfold dropO
      exact List.filter_eq_self.mpr fun x hx => decide_eq_true (q' x hx)
    rw [putO_new q', ed]
/-- put, as the law's book does it -/
def wput (W : Bk) (o : Ord) : Bk := { W with places := W.places + 1, ords := dropO W.ords o.num ++ [({ o with place := W.places + 1 } : Ord).show] }
theorem Eqv.put {B W : Bk} (h : Eqv B W) (hn : (B.ords.map (·.num)).Nodup) {o o' : Ord} (e : strip o = strip o') : Eqv (B.put o) (wput W o') := by
  obtain ⟨e1, e2, e3, e4, e5, e6, e7, e8⟩ := strip_eq e
  have hd := (h.drop o.num).os
  refine ⟨?_, h.many, by show W.places + 1 = B.places + 1; rw [h.places], h.last, h.traded, h.calling⟩
  show ((putO B.ords ({ o with place := B.places + 1 } : Ord).show).map strip).Perm ((dropO W.ords o'.num ++ [({ o' with place := W.places + 1 } : Ord).show]).map strip)
  refine ((putO_perm (o := ({ o with place := B.places + 1 } : Ord).show) hn).map strip).trans ?_
  have ed : dropO W.ords o'.num = dropO W.ords o.num := by rw [e1]
  rw [List.map_append, List.map_append, ed]
  have es : [({ o with place := B.places + 1 } : Ord).show].map strip = [({ o' with place := W.places + 1 } : Ord).show].map strip := by
    show [strip ({ o with place := B.places + 1 } : Ord).show] = [strip ({ o' with place := W.places + 1 } : Ord).show]
    have : strip ({ o with place := B.places + 1 } : Ord).show = strip ({ o' with place := W.places + 1 } : Ord).show := by
      unfold strip Ord.show Ord.shown
      dsimp only
      rw [e1, e2, e3, e4, e5, e6, h.places]
    rw [this]
  rw [es]
  have hd' : ((dropO B.ords o.num).map strip).Perm ((dropO W.ords o.num).map strip) := hd
  exact hd'.append_right [strip ({ o' with place := W.places + 1 } : Ord).show]
/-! ### the call's price -/
theorem callPrice_eq {os : List Ord} {last : Option Int} (hr : ∀ o ∈ os, 0 ≤ o.rest) {q : Int} (hq : ∃ o ∈ os, o.pr = q) (hmin : ∀ o ∈ os, ltL (rank os last o.pr) (rank os last q) = false) :
    callPrice os last = if imin (FB.wanted os true q) (FB.wanted os false q) = 0 then none else some (q, imin (FB.wanted os true q) (FB.wanted os false q)) := by
  obtain ⟨o2, ho2, e2⟩ := hq
  have k4 : ∀ p, ∃ x y z, rank os last p = [x, y, z, p] := fun p => ⟨_, _, _, rfl⟩
  cases ec : callPrice os last with
  | none =>
    have := callPrice_none hr ec o2 ho2
    rw [e2] at this
    rw [if_pos this]
  | some w =>
    obtain ⟨p, n⟩ := w
    obtain ⟨o, ho, e, en, hn, hb⟩ := callPrice_some ec
    have k1 := (better_best _ _ _ hb).1 (rank os last q) (List.mem_map.mpr ⟨o2, ho2, by rw [e2]⟩)
    have k2 := hmin o ho
    rw [← e] at k2
    have er : rank os last p = rank os last q := by
      have tri : ∀ {a b : List Int}, a.length = b.length → ltL a b = false → ltL b a = false → a = b := by
        intro a
        induction a with
        | nil =>
          intro b h _ _
          cases b with
          | nil => rfl
          | cons _ _ => cases h
        | cons x xs ih =>
          intro b h h1 h2
          cases b with
          | nil => cases h
          | cons y ys =>
            unfold ltL at h1 h2
            by_cases c : x = y
            · rw [if_pos c] at h1
              rw [if_pos c.symm] at h2
              rw [c, ih (by simpa using h) h1 h2]
            · rw [if_neg c] at h1
              rw [if_neg (Ne.symm c)] at h2
              have h1 := of_decide_eq_false h1
              have h2 := of_decide_eq_false h2
              omega
      exact tri rfl k2 k1
    have ep : p = q := by
      have := congrArg (fun l => l[3]?) er
      exact Option.some.inj this
    rw [ep] at en
    rw [ep, ← en, if_neg hn]
end FB

set_option maxRecDepth 100000
set_option maxHeartbeats 4000000
set_option pp.maxSteps 400
/-! The law's own book in the heap; its small walks. -/
namespace FB
open PySem PySem.Spec PyProof.Rows L2
def newD (o : Ord) : List (Key × V) := [(.inr "number", .int o.num), (.inr "owner", .int o.own), (.inr "side", .str (sideStr o.buy)), (.inr "price", optV o.price), (.inr "left", .int o.rest), (.inr "shows", optV o.shows)]
def midD (o : Ord) : List (Key × V) := [(.inr "number", .int o.num), (.inr "owner", .int o.own), (.inr "side", .str (sideStr o.buy)), (.inr "price", optV o.price), (.inr "left", .int o.rest), (.inr "shows", optV o.shows), (.inr "place", .int o.place)]
def ordD (o : Ord) : List (Key × V) := [(.inr "number", .int o.num), (.inr "owner", .int o.own), (.inr "side", .str (sideStr o.buy)), (.inr "price", optV o.price), (.inr "left", .int o.rest), (.inr "shows", optV o.shows), (.inr "place", .int o.place), (.inr "shown", .int o.part)]
def wldD (lo : Addr) (W : Bk) : List (Key × V) := [(.inr "orders", .ref lo), (.inr "many", .int W.many), (.inr "places", .int W.places), (.inr "last", optV W.last), (.inr "volume", .int W.traded), (.inr "calling", .bl W.calling)]
structure WorldAt (H : Hp) (wd lo : Addr) (W : Bk) : Prop where
  dc : H wd = some (.dK (wldD lo W))
  ls : H lo = some (.lst (W.ords.map refO))
  os : ∀ o ∈ W.ords, H o.ad = some (.dK (ordD o))
  nda : (W.ords.map (·.ad)).Nodup
theorem WorldAt.same {H H' : Hp} {wd lo : Addr} {W : Bk} (h : WorldAt H wd lo W) (s : L2.Same H H') : WorldAt H' wd lo W := ⟨s _ _ h.dc, s _ _ h.ls, fun o ho => s _ _ (h.os o ho), h.nda⟩
theorem WorldAt.wl {H : Hp} {wd lo : Addr} {W : Bk} (h : WorldAt H wd lo W) : wd ≠ lo := ne_of h.dc h.ls (by intro z; cases z)
theorem key_ne {lo : Addr} {W : Bk} {o : Ord} : HO.dK (wldD lo W) ≠ HO.dK (ordD o) := fun z => by
  injection z with z
  exact absurd (show (6 : Nat) = 8 from congrArg List.length z) (by decide)
theorem key_ne6 {lo : Addr} {W : Bk} {o : Ord} : HO.dK (wldD lo W) ≠ HO.dK (newD o) := fun z => by
  injection z with z
  injection z with z _
  injection z with z _
  injection z with z
  exact absurd z (by decide +kernel)
theorem WorldAt.wo {H : Hp} {wd lo : Addr} {W : Bk} (h : WorldAt H wd lo W) {o : Ord} (ho : o ∈ W.ords) : wd ≠ o.ad := ne_of h.dc (h.os o ho) key_ne
theorem WorldAt.lo_ {H : Hp} {wd lo : Addr} {W : Bk} (h : WorldAt H wd lo W) {o : Ord} (ho : o ∈ W.ords) : lo ≠ o.ad := ne_of h.ls (h.os o ho) (by intro z; cases z)
/-- what a deed of the law's book may touch: itself, its list, its orders, those at ex, and what is new -/
structure WStep (ex : List Addr) (wd lo : Addr) (W : Bk) (H : Hp) (lo' : Addr) (W' : Bk) (H' : Hp) : Prop where
  keep : ∀ b o, H b = some o → b ≠ wd → b ≠ lo → (∀ x ∈ W.ords, x.ad ≠ b) → b ∉ ex → H' b = some o
  dom : ∀ b, H' b = none → H b = none
  lo_ : lo' = lo ∨ H lo' = none
  os_ : ∀ x ∈ W'.ords, (∃ y ∈ W.ords, y.ad = x.ad) ∨ x.ad ∈ ex ∨ H x.ad = none
theorem WStep.trans {ex : List Addr} {wd lo lo1 lo2 : Addr} {W W1 W2 : Bk} {H H1 H2 : Hp} (a : WStep ex wd lo W H lo1 W1 H1) (b : WStep ex wd lo1 W1 H1 lo2 W2 H2) : WStep ex wd lo W H lo2 W2 H2 := by
  refine ⟨fun c o e n1 n2 n3 n4 => ?_, fun c e => a.dom c (b.dom c e), ?_, fun x hx => ?_⟩
  · refine b.keep c o (a.keep c o e n1 n2 n3 n4) n1 (fun z => ?_) (fun x hx z => ?_) n4
    · rcases a.lo_ with q | q
      · exact n2 (z.trans q)
      · rw [← z, e] at q
        cases q
    · rcases a.os_ x hx with ⟨y, hy, q⟩ | q | q
      · exact n3 y hy (q.trans z)
      · rw [z] at q
        exact n4 q
      · rw [z, e] at q
        cases q
  · rcases b.lo_ with q | q
    · rw [q]
      exact a.lo_
    · exact .inr (a.dom _ q)
  · rcases b.os_ x hx with ⟨y, hy, q⟩ | q | q
    · rw [← q]
      exact a.os_ y hy
    · exact .inr (.inl q)
    · exact .inr (.inr (a.dom _ q))
theorem WStep.of {ex : List Addr} {wd lo : Addr} {W : Bk} {H H' : Hp} (s : L2.Same H H') : WStep ex wd lo W H lo W H' := ⟨fun b o e _ _ _ _ => s b o e, fun b e => same_free s e, .inl rfl, fun x hx => .inl ⟨x, hx, rfl⟩⟩
theorem WStep.more {ex ex' : List Addr} {wd lo lo' : Addr} {W W' : Bk} {H H' : Hp} (a : WStep ex wd lo W H lo' W' H') (h : ∀ b ∈ ex, b ∈ ex') : WStep ex' wd lo W H lo' W' H' :=
  ⟨fun b o e n1 n2 n3 n4 => a.keep b o e n1 n2 n3 fun z => n4 (h b z), a.dom, a.lo_, fun x hx => (a.os_ x hx).imp id fun z => z.imp (h _) id⟩
/-- those that ex names are of the book already -/
theorem WStep.less {ex : List Addr} {wd lo lo' : Addr} {W W' : Bk} {H H' : Hp} (a : WStep ex wd lo W H lo' W' H') (h : ∀ b ∈ ex, (∃ y ∈ W.ords, y.ad = b) ∨ H b = none) : WStep [] wd lo W H lo' W' H' :=
  ⟨fun b o e n1 n2 n3 _ => a.keep b o e n1 n2 n3 fun z => (h b z).elim (fun ⟨y, hy, q⟩ => n3 y hy q) (fun q => by rw [e] at q; cases q), a.dom, a.lo_, fun x hx => (a.os_ x hx).elim .inl fun z => z.elim (fun z => (h _ z).imp id .inr) fun z => .inr (.inr z)⟩
theorem dom_upd {H : Hp} {a : Addr} {o : HO} (b : Addr) (e : upd H a o b = none) : H b = none := by
  by_cases h : b = a
  · rw [h, upd_same] at e
    cases e
  · rw [upd_ne h] at e
    exact e
theorem wget {σ : L2.St} {H : Hp} {Q : VK} {a : Addr} {i : Nat} {f : Str} {kvs : List (Key × V)} {v : V} (h1 : σ[i]? = some (some (.ref a))) (hd : H a = some (.dK kvs)) (e : valV kvs (Sum.inr f) = some v) (q : Q v H) : tDGet (tVar i) (tC (.str f)) σ H Q :=
  ⟨_, h1, a, v, rfl, .inl ⟨_, Sum.inr f, .inl hd, rfl, e.symm⟩, q⟩
theorem put_at {kvs kvs' : List (Key × V)} {f : Str} {v : V} (h1 : (kvs.any fun kv => decide (kv.1 = (Sum.inr f : Key))) = true) (h2 : (kvs.map fun kv => if kv.1 = (Sum.inr f : Key) then (kv.1, v) else kv) = kvs') : putK kvs (Sum.inr f) v = kvs' := by
  unfold putK
  rw [if_pos h1]
  exact h2
theorem put_orders (lo lo' : Addr) (W : Bk) : putK (wldD lo W) (Sum.inr "orders") (.ref lo') = wldD lo' W := put_at rfl rfl
theorem put_places (lo : Addr) (W : Bk) (n : Int) : putK (wldD lo W) (Sum.inr "places") (.int n) = wldD lo { W with places := n } := put_at rfl rfl
theorem put_many (lo : Addr) (W : Bk) (n : Int) : putK (wldD lo W) (Sum.inr "many") (.int n) = wldD lo { W with many := n } := put_at rfl rfl
theorem put_last (lo : Addr) (W : Bk) (n : Int) : putK (wldD lo W) (Sum.inr "last") (.int n) = wldD lo { W with last := some n } := put_at rfl rfl
theorem put_volume (lo : Addr) (W : Bk) (n : Int) : putK (wldD lo W) (Sum.inr "volume") (.int n) = wldD lo { W with traded := n } := put_at rfl rfl
theorem put_calling (lo : Addr) (W : Bk) (n : Bool) : putK (wldD lo W) (Sum.inr "calling") (.bl n) = wldD lo { W with calling := n } := put_at rfl rfl
theorem put_oleft (o : Ord) (n : Int) : putK (ordD o) (Sum.inr "left") (.int n) = ordD { o with rest := n } := put_at rfl rfl
theorem put_nleft (o : Ord) (n : Int) : putK (newD o) (Sum.inr "left") (.int n) = newD { o with rest := n } := put_at rfl rfl
theorem put_oshown (o : Ord) (n : Int) : putK (ordD o) (Sum.inr "shown") (.int n) = ordD { o with part := n } := put_at rfl rfl
theorem put_mshown (o : Ord) (n : Int) : putK (midD o) (Sum.inr "shown") (.int n) = ordD { o with part := n } := putK_new _ rfl
theorem put_oplace (o : Ord) (n : Int) : putK (ordD o) (Sum.inr "place") (.int n) = ordD { o with place := n } := put_at rfl rfl
theorem put_nplace (o : Ord) (n : Int) : putK (newD o) (Sum.inr "place") (.int n) = midD { o with place := n } := putK_new _ rfl
section
variable {P : Program} {w : World} {K : PySem.W.Frag} {mg : Str → Option Value} {base : Heap}
/-- one more looks at it -/
def spWShow (K : PySem.W.Frag) : Sp := fun vs H Q _ => ∃ (o : Ord) (kvs : List (Key × V)), vs = [.ref o.ad] ∧ (kvs = midD o ∨ kvs = ordD o) ∧ H o.ad = some (.dK kvs) ∧ Q .non (upd H o.ad (.dK (ordD o.show)))
theorem scWShow : FnScope ["_law_one"] ["_law_one"] (defScope s_l_show) := ⟨rfl, rfl, rfl, by decide +kernel, rfl, by decide +kernel, by decide +kernel⟩
theorem w_l_show (T : Tx K mg) : Fn P w K mg base CX0 1 "_law_show" ["_law_one"] (spWShow K) := by
  refine ⟨ok0 T.f_l_show scWShow (fun _ _ _ _ _ _ us hl => match us, hl with | [_], _ => rfl) (fun vs H Q E h => ?_) (fun cdv A outer s H vs Q E hr h => ?_), T.g_l_show, ?_⟩
  · obtain ⟨o, kvs, rfl, _⟩ := h
    rfl
  · obtain ⟨o, kvs, rfl, hk, hd, k⟩ := h
    have hu := hu_of hr
    refine ⟨_, pss_one (ps_dput hu (pv 0) pe_str (pe_ifExp (pt_cmp (pc_isN (pe_dget hu (pv 0) pe_str (fun _ _ => rfl)))) (pe_dget hu (pv 0) pe_str (fun _ _ => rfl)) (pe_callB (call_min2 rfl) rfl T.z_min boot_min (pa_cons (pe_dget hu (pv 0) pe_str (fun _ _ => rfl)) (pa_cons (pe_dget hu (pv 0) pe_str (fun _ _ => rfl)) pa_nil)))) rfl), ?_⟩
    have v1 : valV kvs (Sum.inr "shows") = some (optV o.shows) := by rcases hk with e | e <;> rw [e] <;> rfl
    have v2 : valV kvs (Sum.inr "left") = some (.int o.rest) := by rcases hk with e | e <;> rw [e] <;> rfl
    have pk : ∀ n, putK kvs (Sum.inr "shown") (.int n) = ordD { o with part := n } := fun n => by
      rcases hk with e | e <;> rw [e]
      · exact put_mshown o n
      · exact put_oshown o n
    have len : kvs.length < sizeLine := by
      rcases hk with e | e <;> rw [e]
      · show 7 < sizeLine
        decide
      · show 8 < sizeLine
        decide
    have fin : ∀ n, n = o.shown → Q .non (upd H o.ad (.dK (putK kvs (Sum.inr "shown") (.int n)))) := fun n e => by
      rw [pk, e]
      exact k
    refine wget rfl hd v1 ⟨_, rfl, ?_⟩
    rw [optV_non]
    cases hs : o.shows with
    | none => exact iteT (wget rfl hd v2 ⟨_, rfl, o.ad, _, rfl, .inl ⟨_, Sum.inr "shown", hd, rfl, len, rfl⟩, fin _ (by unfold Ord.shown; rw [hs])⟩)
    | some sv =>
      rw [hs] at v1
      exact iteF (wget rfl hd v1 (wget rfl hd v2 ⟨_, _, rfl, _, rfl, o.ad, _, rfl, .inl ⟨_, Sum.inr "shown", hd, rfl, len, rfl⟩, fin _ (by unfold Ord.shown; rw [hs]; rfl)⟩))
  · obtain ⟨fd, F⟩ := T.f_l_show
    exact F.kp
/-- one is gone -/
def spGone (K : PySem.W.Frag) : Sp := fun vs H Q _ => ∃ (wd lo : Addr) (W : Bk) (n : Int), vs = [.ref wd, .int n] ∧ WorldAt H wd lo W ∧ W.ords.length ≤ 1000 ∧
  ∀ lo' H', WorldAt H' wd lo' { W with ords := dropO W.ords n } → WStep [] wd lo W H lo' { W with ords := dropO W.ords n } H' → (∀ o ∈ W.ords, H' o.ad = some (.dK (ordD o))) → Q .non H'
theorem scGone : FnScope ["_law_world", "_law_number", "_law_one"] ["_law_world", "_law_number"] (defScope s_l_gone) := ⟨rfl, rfl, rfl, by decide +kernel, rfl, by decide +kernel, by decide +kernel⟩
theorem gone_heap {H H1 : Hp} {wd lo D : Addr} {W : Bk} {n : Int} (hW : WorldAt H wd lo W) (s1 : L2.Same H H1) (hD : H D = none) (e : H1 D = some (.lst ((dropO W.ords n).map refO))) :
    WorldAt (upd H1 wd (.dK (wldD D W))) wd D { W with ords := dropO W.ords n } ∧ WStep [] wd lo W H D { W with ords := dropO W.ords n } (upd H1 wd (.dK (wldD D W))) := by
  have hwD : wd ≠ D := ne_of_none hW.dc hD
  refine ⟨⟨upd_same, by rw [upd_ne hwD.symm]; exact e, fun o ho => ?_, nodup_dropO hW.nda⟩, ⟨fun b o e n1 n2 n3 _ => by rw [upd_ne n1]; exact s1 _ _ e, fun b e => same_free s1 (dom_upd b e), .inr hD, fun x hx => .inl ⟨x, (mem_dropO.mp hx).1, rfl⟩⟩⟩
  have hm := (mem_dropO.mp ho).1
  rw [upd_ne (hW.wo hm).symm]
  exact s1 _ _ (hW.os o hm)
theorem w_l_gone (T : Tx K mg) : Fn P w K mg base CX0 1 "_law_gone" ["_law_world", "_law_number"] (spGone K) := by
  refine ⟨ok0 T.f_l_gone scGone (fun _ _ _ _ _ _ us hl => match us, hl with | [_, _], _ => rfl) (fun vs H Q E h => ?_) (fun cdv A outer s H vs Q E hr h => ?_), T.g_l_gone, ?_⟩
  · obtain ⟨wd, lo, W, n, rfl, _⟩ := h
    rfl
  · obtain ⟨wd, lo, W, n, rfl, hW, hlen, k⟩ := h
    have hu := hu_of hr
    refine ⟨_, pss_one (ps_dput hu (pv 0) pe_str (pe_lc (own := [("_law_one", 2)]) (g := gName 2) (tt := tTest (tOp rNe (tDGet (tVar 2) (tC (.str "number"))) (tVar 1))) (te := tVar 2) rfl scGone.nd (pi_list (pe_dget hu (pv 0) pe_str (fun _ _ => rfl)))
      (blkOk_by (N := ["_law_world", "_law_number", "_law_one"]) (sc := defScope s_l_gone) (by decide +kernel)) (fun _ _ _ _ _ => pg_name (i := 2) scGone.nd rfl (Or.inl rfl)) (fun _ _ _ _ _ => pts_one (pt_cmpR op_ne (pe_dget hu (pv 2) pe_str (fun _ _ => rfl)) (pv 1) (nomark _))) (fun _ _ _ _ _ => pv 2)) rfl), ?_⟩
    refine wget rfl hW.dc (v := .ref lo) rfl ⟨lo, rfl, ⟨_, .inl (.inl hW.ls)⟩, fun D hD => ?_⟩
    refine lc_rel (K := K) (zs := W.ords) (enc := refO) (p := fun o => decide (o.num ≠ n)) (R := fun z y _ => y = refO z) (.inl (.inl hW.ls)) (Nat.le_trans hlen (by decide)) hD (fun _ _ _ _ _ _ _ h => h) ?_ ?_
    · intro o ho H1 s1 Qy Qn qy qn
      refine ⟨rfl, wget rfl (s1 _ _ (hW.os o ho)) (v := .int o.num) rfl ⟨_, rfl, rfl, _, rfl, ?_⟩⟩
      by_cases c : o.num = n
      · exact iteNS (by rw [c]) (qn (decide_eq_false fun z => z c) H1 (L2.Same.refl _))
      · rw [decide_eq_false (fun z => c (V.int.inj z))]
        exact iteT ⟨_, rfl, qy (decide_eq_true c) _ H1 (L2.Same.refl _) rfl⟩
    intro H1 ys1 s1 hDy hP
    have e1 := paired_eq hP
    rw [e1] at hDy
    have g := gone_heap (n := n) hW s1 hD hDy
    refine ⟨_, rfl, wd, _, rfl, .inl ⟨_, Sum.inr "orders", s1 _ _ hW.dc, rfl, by show 6 < sizeLine; decide, rfl⟩, ?_⟩
    rw [put_orders]
    exact k D _ g.1 g.2 fun o ho => by
      rw [upd_ne (hW.wo ho).symm]
      exact s1 _ _ (hW.os o ho)
  · obtain ⟨fd, F⟩ := T.f_l_gone
    exact F.kp
end
end FB

set_option maxRecDepth 100000
set_option maxHeartbeats 4000000
set_option pp.maxSteps 400
/-! The law's own book: put, first, side, suits, find, good, new, call. -/
namespace FB
open PySem PySem.Spec PyProof.Rows L2
section
variable {P : Program} {w : World} {K : PySem.W.Frag} {mg : Str → Option Value} {base : Heap}
def spWPut (K : PySem.W.Frag) : Sp := fun vs H Q _ => ∃ (wd lo : Addr) (W : Bk) (o : Ord), vs = [.ref wd, .ref o.ad] ∧ WorldAt H wd lo W ∧ W.ords.length ≤ 1000 ∧ (o ∈ W.ords ∧ (W.ords.map (·.num)).Nodup ∨ H o.ad = some (.dK (newD o)) ∧ ∀ x ∈ W.ords, x.ad ≠ o.ad) ∧
  ∀ lo' H', WorldAt H' wd lo' (wput W o) → WStep [o.ad] wd lo W H lo' (wput W o) H' → Q .non H'
theorem scWPut : FnScope ["_law_world", "_law_one", "_law_other"] ["_law_world", "_law_one"] (defScope s_l_put) := ⟨rfl, rfl, rfl, by decide +kernel, rfl, by decide +kernel, by decide +kernel⟩
theorem w_l_put (T : Tx K mg) : Fn P w K mg base CX0 2 "_law_put" ["_law_world", "_law_one"] (spWPut K) := by
  refine ⟨ok0 T.f_l_put scWPut (fun _ _ _ _ _ _ us hl => match us, hl with | [_, _], _ => rfl) (fun vs H Q E h => ?_) (fun cdv A outer s H vs Q E hr h => ?_), T.g_l_put, ?_⟩
  · obtain ⟨wd, lo, W, o, rfl, _⟩ := h
    rfl
  · obtain ⟨wd, lo, W, o, rfl, hW, hlen, hin, k⟩ := h
    have hu := hu_of hr
    have GS : Fn P w K mg base CX0 1 "_law_show" ["_law_one"] (spWShow K) := w_l_show T
    refine ⟨_, pss_cons (ps_dput hu (pv 0) pe_str (pe_lc (own := [("_law_other", 2)]) (g := gName 2) (tt := tTest (tOp rNe (tDGet (tVar 2) (tC (.str "number"))) (tDGet (tVar 1) (tC (.str "number"))))) (te := tVar 2) rfl scWPut.nd (pi_list (pe_dget hu (pv 0) pe_str (fun _ _ => rfl)))
        (blkOk_by (N := ["_law_world", "_law_one", "_law_other"]) (sc := defScope s_l_put) (by decide +kernel)) (fun _ _ _ _ _ => pg_name (i := 2) scWPut.nd rfl (Or.inl rfl)) (fun _ _ _ _ _ => pts_one (pt_cmpR op_ne (pe_dget hu (pv 2) pe_str (fun _ _ => rfl)) (pe_dget hu (pv 1) pe_str (fun _ _ => rfl)) (nomark _))) (fun _ _ _ _ _ => pv 2)) rfl)
      (pss_cons (ps_dput hu (pv 0) pe_str (pe_op op_add (pe_dget hu (pv 0) pe_str (fun _ _ => rfl)) pe_int) rfl)
      (pss_cons (ps_dput hu (pv 1) pe_str (pe_dget hu (pv 0) pe_str (fun _ _ => rfl)) rfl)
      (pss_cons (ps_expr (pe_fn GS hr rfl pass0 (pa_cons (pv 1) pa_nil)))
      (pss_one (ps_expr (pe_bm PySem.F.plainAttrs_list PySem.F.slot_list_append PySem.F.type_list_append mt_append (pe_dget hu (pv 0) pe_str (fun _ _ => rfl)) (pa_cons (pv 1) pa_nil))))))), ?_⟩
    obtain ⟨kvs, ho, hk⟩ : ∃ kvs, H o.ad = some (.dK kvs) ∧ (kvs = newD o ∨ kvs = ordD o) := by
      rcases hin with ⟨h, _⟩ | ⟨h, _⟩
      · exact ⟨_, hW.os o h, .inr rfl⟩
      · exact ⟨_, h, .inl rfl⟩
    have vnum : valV kvs (Sum.inr "number") = some (.int o.num) := by rcases hk with e | e <;> rw [e] <;> rfl
    have len8 : kvs.length < sizeLine := by
      rcases hk with e | e <;> rw [e]
      · show 6 < sizeLine
        decide
      · show 8 < sizeLine
        decide
    have noad : ∀ x ∈ W.ords, x.num ≠ o.num → x.ad ≠ o.ad := fun x hx n z => by
      rcases hin with ⟨h, _⟩ | ⟨_, h⟩
      · exact n (congrArg Ord.num (nodup_inj hW.nda hx h z))
      · exact h x hx z
    have wo : wd ≠ o.ad := by
      rcases hk with e | e
      · rw [e] at ho
        exact ne_of hW.dc ho key_ne6
      · rw [e] at ho
        exact ne_of hW.dc ho key_ne
    refine wget rfl hW.dc (v := .ref lo) rfl ⟨lo, rfl, ⟨_, .inl (.inl hW.ls)⟩, fun D hD => ?_⟩
    refine lc_rel (K := K) (zs := W.ords) (enc := refO) (p := fun x => decide (x.num ≠ o.num)) (R := fun z y _ => y = refO z) (.inl (.inl hW.ls)) (Nat.le_trans hlen (by decide)) hD (fun _ _ _ _ _ _ _ h => h) ?_ ?_
    · intro x hx H1 s1 Qy Qn qy qn
      refine ⟨rfl, wget rfl (s1 _ _ (hW.os x hx)) (v := .int x.num) rfl (wget rfl (s1 _ _ ho) vnum ⟨rfl, _, rfl, ?_⟩)⟩
      by_cases c : x.num = o.num
      · exact iteNS (by rw [c]) (qn (decide_eq_false fun z => z c) H1 (L2.Same.refl _))
      · rw [decide_eq_false (fun z => c (V.int.inj z))]
        exact iteT ⟨_, rfl, qy (decide_eq_true c) _ H1 (L2.Same.refl _) rfl⟩
    intro H1 ys1 s1 hDy hP
    have e1 := paired_eq hP
    rw [e1] at hDy
    have hDy : H1 D = some (.lst ((dropO W.ords o.num).map refO)) := hDy
    have hwD : wd ≠ D := ne_of_none hW.dc hD
    have hoD : o.ad ≠ D := ne_of_none ho hD
    refine ⟨_, rfl, wd, _, rfl, .inl ⟨_, Sum.inr "orders", s1 _ _ hW.dc, rfl, by show 6 < sizeLine; decide, rfl⟩, ?_⟩
    rw [put_orders]
    refine wget rfl upd_same (v := .int W.places) rfl ⟨_, _, rfl, rfl, _, rfl, wd, _, rfl, .inl ⟨_, Sum.inr "places", upd_same, rfl, by show 6 < sizeLine; decide, rfl⟩, ?_⟩
    rw [upd_upd, put_places]
    have ho2 : upd H1 wd (.dK (wldD D { W with places := W.places + 1 })) o.ad = some (.dK kvs) := by
      rw [upd_ne wo.symm]
      exact s1 _ _ ho
    refine wget rfl upd_same (v := .int (W.places + 1)) rfl ⟨_, rfl, o.ad, _, rfl, .inl ⟨_, Sum.inr "place", ho2, rfl, len8, rfl⟩, ?_⟩
    have hsh : ∃ kvs', putK kvs (Sum.inr "place") (V.int (W.places + 1)) = kvs' ∧ (kvs' = midD { o with place := W.places + 1 } ∨ kvs' = ordD { o with place := W.places + 1 }) := by
      rcases hk with e | e <;> rw [e]
      · exact ⟨_, put_nplace o _, .inl rfl⟩
      · exact ⟨_, put_oplace o _, .inr rfl⟩
    obtain ⟨kvs', ep, hk'⟩ := hsh
    rw [ep]
    refine ⟨_, rfl, { o with place := W.places + 1 }, kvs', rfl, hk', upd_same, ?_⟩
    rw [upd_upd]
    have hw3 : upd (upd H1 wd (.dK (wldD D { W with places := W.places + 1 }))) o.ad (.dK (ordD ({ o with place := W.places + 1 } : Ord).show)) wd = some (.dK (wldD D { W with places := W.places + 1 })) := by
      rw [upd_ne wo, upd_same]
    have hl3 : upd (upd H1 wd (.dK (wldD D { W with places := W.places + 1 }))) o.ad (.dK (ordD ({ o with place := W.places + 1 } : Ord).show)) D = some (.lst ((dropO W.ords o.num).map refO)) := by
      rw [upd_ne hoD.symm, upd_ne hwD.symm]
      exact hDy
    refine wget rfl hw3 (v := .ref D) rfl ⟨.inl ⟨rfl, _, .inl (.inl hl3)⟩, _, rfl, D, _, _, rfl, rfl, hl3, ?_, ?_⟩
    · rw [List.length_map]
      have h1 : (dropO W.ords o.num).length ≤ W.ords.length := List.length_filter_le _ _
      have h3 : (1000 : Nat) < sizeLine := by decide
      omega
    have ekeep : ∀ c u, H c = some u → c ≠ wd → c ≠ o.ad → upd (upd (upd H1 wd (.dK (wldD D { W with places := W.places + 1 }))) o.ad (.dK (ordD ({ o with place := W.places + 1 } : Ord).show))) D (.lst ((dropO W.ords o.num).map refO ++ [V.ref o.ad])) c = some u := fun c u e n1 n2 => by
      rw [upd_ne (ne_of_none e hD), upd_ne n2, upd_ne n1]
      exact s1 _ _ e
    refine k D _ ⟨?_, ?_, fun x hx => ?_, ?_⟩ ⟨fun c u e n1 n2 n3 n4 => ekeep c u e n1 (fun z => n4 (by rw [z]; exact List.mem_singleton_self _)), fun c e => same_free s1 (dom_upd c (dom_upd c (dom_upd c e))), .inr hD, fun x hx => ?_⟩
    · rw [upd_ne hwD]
      exact hw3
    · rw [upd_same]
      show some (HO.lst ((dropO W.ords o.num).map refO ++ [V.ref o.ad])) = some (HO.lst ((dropO W.ords o.num ++ [({ o with place := W.places + 1 } : Ord).show]).map refO))
      rw [List.map_append]
      rfl
    · rcases List.mem_append.mp hx with hx | hx
      · obtain ⟨h1, h2⟩ := mem_dropO.mp hx
        exact ekeep _ _ (hW.os x h1) (hW.wo h1).symm (noad x h1 h2)
      · rw [List.mem_singleton.mp hx]
        show upd _ D _ o.ad = _
        rw [upd_ne hoD, upd_same]
    · show ((dropO W.ords o.num ++ [({ o with place := W.places + 1 } : Ord).show]).map (·.ad)).Nodup
      rw [List.map_append, List.nodup_append]
      refine ⟨nodup_dropO hW.nda, by simp, fun c hc b hb z => ?_⟩
      obtain ⟨x, hx, ex⟩ := List.mem_map.mp hc
      obtain ⟨h1, h2⟩ := mem_dropO.mp hx
      have hb : b = o.ad := (by simpa using hb : b = ({ o with place := W.places + 1 } : Ord).show.ad)
      exact noad x h1 h2 (ex.trans (z.trans hb))
    · rcases List.mem_append.mp hx with hx | hx
      · exact .inl ⟨x, (mem_dropO.mp hx).1, rfl⟩
      · rw [List.mem_singleton.mp hx]
        exact .inr (.inl (List.mem_singleton_self _))
  · obtain ⟨fd, F⟩ := T.f_l_put
    exact F.kp
/-- what a row goes by -/
def spFirst (K : PySem.W.Frag) : Sp := fun vs H Q _ => ∃ o : Ord, vs = [.ref o.ad] ∧ H o.ad = some (.dK (ordD o)) ∧ o.price = some o.pr ∧ ∀ t H', L2.Same H H' → H' t = some (.tup [.int o.k1, .int o.place]) → Q (.ref t) H'
theorem scFirst : FnScope ["_law_one"] ["_law_one"] (defScope s_l_first) := ⟨rfl, rfl, rfl, by decide +kernel, rfl, by decide +kernel, by decide +kernel⟩
theorem w_l_first (T : Tx K mg) : Fn P w K mg base CX0 1 "_law_first" ["_law_one"] (spFirst K) := by
  refine ⟨ok0 T.f_l_first scFirst (fun _ _ _ _ _ _ us hl => match us, hl with | [_], _ => rfl) (fun vs H Q E h => ?_) (fun cdv A outer s H vs Q E hr h => ?_), T.g_l_first, ?_⟩
  · obtain ⟨o, rfl, _⟩ := h
    rfl
  · obtain ⟨o, rfl, hd, hp, k⟩ := h
    have hu := hu_of hr
    refine ⟨_, pss_one (ps_ret (pe_tup (pa_cons (pe_op op_mul (pe_dget hu (pv 0) pe_str (fun _ _ => rfl)) (pe_ix (r := rIx K) ix_seq (pe_lst (pa_cons pe_int (pa_cons (pe_un un_neg pe_int) pa_nil))) (pe_callTy call_int1 rfl T.z_int (by decide +kernel) (pa_cons (pe_cmpR op_eq (pe_dget hu (pv 0) pe_str (fun _ _ => rfl)) pe_str (nomark _)) pa_nil)) (fun _ _ => rfl)))
      (pa_cons (pe_dget hu (pv 0) pe_str (fun _ _ => rfl)) pa_nil)))), ?_⟩
    refine wget rfl hd (v := .int o.pr) (by show some (optV o.price) = _; rw [hp]; rfl) ⟨1, rfl, by show 2 ≤ sizeLine; decide, fun p hp1 => ?_⟩
    have s1 := same_new (o := .lst [V.int 1, V.int (-1)]) hp1
    refine wget rfl (s1 _ _ hd) (v := .str (sideStr o.buy)) rfl ⟨rfl, .inr ⟨_, rfl, ?_⟩⟩
    rw [side_buy]
    have hi : atI [V.int 1, V.int (-1)] (if o.buy = true then 1 else 0) = some (.int (if o.buy = true then -1 else 1)) := by cases o.buy <;> rfl
    refine .inl ⟨p, _, _, _, rfl, rfl, .inl (.inl upd_same), hi, _, _, rfl, rfl, .inr (by cases o.buy <;> exact ⟨by decide, by decide⟩), ?_⟩
    refine wget rfl (s1 _ _ hd) (v := .int o.place) rfl ⟨by show 2 ≤ sizeLine; decide, fun t ht => ?_⟩
    refine k t _ (same_upd s1 ht) ?_
    rw [upd_same]
    have e : o.pr * (if o.buy = true then -1 else 1) = o.k1 := by
      unfold Ord.k1
      cases o.buy
      · show o.pr * 1 = o.pr
        omega
      · show o.pr * -1 = -o.pr
        omega
    show some (HO.tup [V.int (o.pr * (if o.buy = true then -1 else 1)), _]) = _
    rw [e]
  · obtain ⟨fd, F⟩ := T.f_l_first
    exact F.kp
theorem pairs_le (ky : Ord → Int × Int) : PySem.W.dataLe false (fun z : Ord => pairK (ky z)) = fun a b => decide ((ky a).1 < (ky b).1 ∨ ((ky a).1 = (ky b).1 ∧ (ky a).2 ≤ (ky b).2)) := PySem.W.dataLe_ii (fun z => (ky z).1) (fun z => (ky z).2)
theorem side_sorted {W : Bk} (ok : BkOk W) (side : Bool) : (W.ords.filter fun o => o.buy == side).mergeSort (PySem.W.dataLe false fun o => pairK (o.k1, o.place)) = row W.ords side := by
  rw [pairs_le (fun o => (o.k1, o.place))]
  have mem : ∀ {o}, o ∈ (W.ords.filter fun o => o.buy == side).mergeSort (fun a b : Ord => decide (a.k1 < b.k1 ∨ (a.k1 = b.k1 ∧ a.place ≤ b.place))) ↔ o ∈ W.ords ∧ o.buy = side := fun {o} => by
    rw [List.mem_mergeSort, List.mem_filter]
    simp
  refine (row_unique ok.ndn (fun o h => mem.mp h) (fun o h1 h2 => mem.mpr ⟨h1, h2⟩) ?_ ?_).symm
  · have p := (List.mergeSort_perm (W.ords.filter fun o => o.buy == side) (fun a b : Ord => decide (a.k1 < b.k1 ∨ (a.k1 = b.k1 ∧ a.place ≤ b.place)))).map (·.num)
    exact p.nodup_iff.mpr (ok.ndn.sublist ((List.filter_sublist).map _))
  · have ps := List.pairwise_mergeSort (le := fun a b : Ord => decide (a.k1 < b.k1 ∨ (a.k1 = b.k1 ∧ a.place ≤ b.place))) (fun a b c h1 h2 => by
      have h1 := of_decide_eq_true h1
      have h2 := of_decide_eq_true h2
      exact decide_eq_true (by omega)) (fun a b => by
      by_cases c : a.k1 < b.k1 ∨ (a.k1 = b.k1 ∧ a.place ≤ b.place)
      · rw [decide_eq_true c]
        rfl
      · rw [decide_eq_true (show b.k1 < a.k1 ∨ (b.k1 = a.k1 ∧ b.place ≤ a.place) by omega)]
        exact Bool.or_true _) (W.ords.filter fun o => o.buy == side)
    refine (List.Pairwise.and_mem.mp ps).imp fun {a b} h => ?_
    have h3 := of_decide_eq_true h.2.2
    rw [leO_iff]
    unfold Lt3
    intro z
    by_cases e : a.place = b.place
    · have := nodup_inj ok.ndp (mem.mp h.1).1 (mem.mp h.2.1).1 e
      rw [this] at z
      omega
    · omega
/-- a side, the best first -/
def spWSide (K : PySem.W.Frag) : Sp := fun vs H Q _ => ∃ (wd lo : Addr) (W : Bk) (side : Bool), vs = [.ref wd, .str (sideStr side)] ∧ WorldAt H wd lo W ∧ BkOk W ∧ W.ords.length ≤ 1000 ∧
  ∀ H' r, L2.Same H H' → H r = none → H' r = some (.lst ((row W.ords side).map refO)) → Q (.ref r) H'
theorem scWSide : FnScope ["_law_world", "_law_side_here", "_law_one"] ["_law_world", "_law_side_here"] (defScope s_l_side) := ⟨rfl, rfl, rfl, by decide +kernel, rfl, by decide +kernel, by decide +kernel⟩
theorem w_l_side (T : Tx K mg) : Fn P w K mg base CX0 4 "_law_side" ["_law_world", "_law_side_here"] (spWSide K) := by
  refine ⟨ok0 T.f_l_side scWSide (fun _ _ _ _ _ _ us hl => match us, hl with | [_, _], _ => rfl) (fun vs H Q E h => ?_) (fun cdv A outer s H vs Q E hr h => ?_), T.g_l_side, ?_⟩
  · obtain ⟨wd, lo, W, side, rfl, _⟩ := h
    rfl
  · obtain ⟨wd, lo, W, side, rfl, hW, ok, hlen, k⟩ := h
    have hu := hu_of hr
    obtain ⟨fd1, F1, b1⟩ := (w_l_first (P := P) (w := w) (base := base) T).ok
    refine ⟨_, pss_one (ps_ret (pe_callBK (cr_sortedF F1 b1 (hr.mono (j := 3) (by decide))) rfl T.z_sorted boot_sorted (pa_cons (pe_lc (own := [("_law_one", 2)]) (g := gName 2) (tt := tTest (tOp rEq (tDGet (tVar 2) (tC (.str "side"))) (tVar 1))) (te := tVar 2) rfl scWSide.nd (pi_list (pe_dget hu (pv 0) pe_str (fun _ _ => rfl)))
        (blkOk_by (N := ["_law_world", "_law_side_here", "_law_one"]) (sc := defScope s_l_side) (by decide +kernel)) (fun _ _ _ _ _ => pg_name (i := 2) scWSide.nd rfl (Or.inl rfl)) (fun _ _ _ _ _ => pts_one (pt_cmpR op_eq (pe_dget hu (pv 2) pe_str (fun _ _ => rfl)) (pv 1) (nomark _))) (fun _ _ _ _ _ => pv 2)) pa_nil)
        (pk_cons (pe_glob (v := .ref (He.ga K "_law_first")) rfl T.g_l_first rfl) pk_nil))), ?_⟩
    refine wget rfl hW.dc (v := .ref lo) rfl ⟨lo, rfl, ⟨_, .inl (.inl hW.ls)⟩, fun D hD => ?_⟩
    refine lc_rel (K := K) (zs := W.ords) (enc := refO) (p := fun o => o.buy == side) (R := fun z y _ => y = refO z) (.inl (.inl hW.ls)) (Nat.le_trans hlen (by decide)) hD (fun _ _ _ _ _ _ _ h => h) ?_ ?_
    · intro o ho H1 s1 Qy Qn qy qn
      refine ⟨rfl, wget rfl (s1 _ _ (hW.os o ho)) (v := .str (sideStr o.buy)) rfl ⟨_, rfl, rfl, _, rfl, ?_⟩⟩
      rw [side_eq]
      cases c : (o.buy == side) with
      | true => exact iteT ⟨_, rfl, qy c _ H1 (L2.Same.refl _) rfl⟩
      | false => exact iteF (qn c H1 (L2.Same.refl _))
    intro H1 ys1 s1 hDy hP
    have e1 := paired_eq hP
    rw [e1] at hDy
    refine ⟨D, Ord, W.ords.filter fun o => o.buy == side, refO, fun o => (o.k1, o.place), rfl, rfl, .inl (.inl hDy), fun o ho H2 s2 Qk qk => ⟨o, rfl, s2 _ _ (s1 _ _ (hW.os o (List.mem_filter.mp ho).1)), (ok.os o (List.mem_filter.mp ho).1).price, qk⟩, fun H2 r s2 hr2 er => ?_⟩
    rw [side_sorted ok] at er
    exact k H2 r (s1.trans s2) (same_free s1 hr2) er
  · obtain ⟨fd, F⟩ := T.f_l_side
    exact F.kp
end
end FB

set_option maxRecDepth 100000
set_option maxHeartbeats 4000000
set_option pp.maxSteps 400
/-! The law's own book: suits, find, good, new, call, cancel, change. -/
namespace FB
open PySem PySem.Spec PyProof.Rows L2
/-- one field of the world -/
theorem fld_heap {H : Hp} {wd lo : Addr} {W W' : Bk} (hW : WorldAt H wd lo W) (e : W'.ords = W.ords) : WorldAt (upd H wd (.dK (wldD lo W'))) wd lo W' ∧ WStep [] wd lo W H lo W' (upd H wd (.dK (wldD lo W'))) := by
  refine ⟨⟨upd_same, ?_, fun o ho => ?_, by rw [e]; exact hW.nda⟩, ⟨fun b o h n1 _ _ _ => by rw [upd_ne n1]; exact h, fun b h => dom_upd b h, .inl rfl, fun x hx => .inl ⟨x, by rw [← e]; exact hx, rfl⟩⟩⟩
  · rw [upd_ne hW.wl.symm, e]
    exact hW.ls
  · rw [e] at ho
    rw [upd_ne (hW.wo ho).symm]
    exact hW.os o ho
/-- one order of it -/
theorem ord_heap {H : Hp} {wd lo : Addr} {W : Bk} {o o' : Ord} (hW : WorldAt H wd lo W) (hn : (W.ords.map (·.num)).Nodup) (ho : o ∈ W.ords) (ea : o'.ad = o.ad) (en : o'.num = o.num) :
    WorldAt (upd H o.ad (.dK (ordD o'))) wd lo { W with ords := updO W.ords o' } ∧ WStep [] wd lo W H lo { W with ords := updO W.ords o' } (upd H o.ad (.dK (ordD o'))) := by
  have er : (updO W.ords o').map refO = W.ords.map refO := by
    unfold updO
    rw [List.map_map]
    refine List.map_congr_left fun x hx => ?_
    show refO (if x.num = o'.num then o' else x) = refO x
    by_cases c : x.num = o'.num
    · have : x = o := nodup_inj hn hx ho (c.trans en)
      rw [if_pos c, this]
      show V.ref o'.ad = V.ref o.ad
      rw [ea]
    · rw [if_neg c]
  have at_ : ∀ x ∈ updO W.ords o', x = o' ∨ (x ∈ W.ords ∧ x.ad ≠ o.ad) := fun x hx => by
    rcases mem_updO hx with ⟨e, _⟩ | ⟨h, n⟩
    · exact .inl e
    · exact .inr ⟨h, fun z => n (by rw [nodup_inj hW.nda h ho z, en])⟩
  refine ⟨⟨?_, ?_, fun x hx => ?_, ?_⟩, ⟨fun b u h _ _ n3 _ => ?_, fun b h => dom_upd b h, .inl rfl, fun x hx => ?_⟩⟩
  · rw [upd_ne (hW.wo ho)]
    exact hW.dc
  · rw [upd_ne (hW.lo_ ho)]
    show H lo = some (.lst ((updO W.ords o').map refO))
    rw [er]
    exact hW.ls
  · rcases at_ x hx with e | ⟨h, n⟩
    · rw [e, ea, upd_same]
    · rw [upd_ne n]
      exact hW.os x h
  · have e2 : ∀ l : List Ord, l.map refO = (l.map (·.ad)).map V.ref := fun l => by
      rw [List.map_map]
      rfl
    have e3 : (updO W.ords o').map (·.ad) = W.ords.map (·.ad) := by
      rw [e2, e2] at er
      exact (List.map_inj_right fun a b h => V.ref.inj h).mp er
    show ((updO W.ords o').map (·.ad)).Nodup
    rw [e3]
    exact hW.nda
  · rw [upd_ne (fun z => n3 o ho z.symm)]
    exact h
  · rcases at_ x hx with e | ⟨h, _⟩
    · exact .inl ⟨o, ho, by rw [e, ea]⟩
    · exact .inl ⟨x, h, rfl⟩
theorem find_mem' {os : List Ord} (hn : (os.map (·.num)).Nodup) {x : Ord} (hx : x ∈ os) : findO os x.num = some x := by
  cases e : findO os x.num with
  | none => exact (List.find?_eq_none.mp e x hx (by simp)).elim
  | some y => rw [nodup_inj hn (find_some e).1 hx (find_some e).2]
theorem Eqv.find_some_ {B W : Bk} (h : Eqv B W) (ok : BkOk B) {n : Int} {o : Ord} (e : findO B.ords n = some o) : ∃ o', findO W.ords n = some o' ∧ strip o' = strip o := by
  obtain ⟨ho, en⟩ := find_some e
  obtain ⟨x, hx, ex⟩ := h.find ho
  have := find_mem' (h.ok ok).ndn hx
  rw [(strip_eq ex).1, en] at this
  exact ⟨x, this, ex⟩
theorem Eqv.find_none_ {B W : Bk} (h : Eqv B W) {n : Int} (e : findO B.ords n = none) : findO W.ords n = none := by
  cases q : findO W.ords n with
  | none => rfl
  | some x =>
    obtain ⟨hx, en⟩ := find_some q
    obtain ⟨o, ho, eo⟩ := h.back hx
    exact (List.find?_eq_none.mp e o ho (by simp [(strip_eq eo).1, en])).elim
section
variable {P : Program} {w : World} {K : PySem.W.Frag} {mg : Str → Option Value} {base : Heap}
def suitsP (b : Bool) (p : Option Int) (q : Int) : Bool := match p with
  | none => true
  | some l => if b then decide (q ≤ l) else decide (l ≤ q)
def spLSuits (K : PySem.W.Frag) : Sp := fun vs H Q _ => ∃ (b : Bool) (p : Option Int) (q : Int), vs = [.str (sideStr b), optV p, .int q] ∧ Q (.bl (suitsP b p q)) H
theorem scLSuits : FnScope ["_law_side_here", "_law_limit", "_law_price_here"] ["_law_side_here", "_law_limit", "_law_price_here"] (defScope s_l_suits) := ⟨rfl, rfl, rfl, by decide +kernel, rfl, by decide +kernel, by decide +kernel⟩
theorem w_l_suits (T : Tx K mg) : Fn P w K mg base CX0 1 "_law_suits" ["_law_side_here", "_law_limit", "_law_price_here"] (spLSuits K) := by
  refine ⟨ok0 T.f_l_suits scLSuits (fun _ _ _ _ _ _ us hl => match us, hl with | [_, _, _], _ => rfl) (fun vs H Q E h => ?_) (fun cdv A outer s H vs Q E hr h => ?_), T.g_l_suits, ?_⟩
  · obtain ⟨b, p, q, rfl, _⟩ := h
    rfl
  · obtain ⟨b, p, q, rfl, k⟩ := h
    refine ⟨_, pss_one (ps_ret (pe_or (pe_cmp (pc_isN (pv 1)) rfl) (pe_one (pe_ifExp (pt_cmpR op_eq (pv 0) pe_str (nomark _)) (pe_cmpR op_le (pv 2) (pv 1) (nomark _)) (pe_cmpR op_ge (pv 2) (pv 1) (nomark _)))))), ?_⟩
    cases p with
    | none => exact ⟨_, rfl, _, rfl, ifY rfl k⟩
    | some l =>
      refine ⟨_, rfl, _, rfl, ifN (fun z => nomatch z) ⟨_, rfl, rfl, _, rfl, ?_⟩⟩
      rw [side_buy]
      cases b with
      | true => exact iteT ⟨_, rfl, _, rfl, _, _, rfl, rfl, k⟩
      | false => exact iteF ⟨_, rfl, _, rfl, _, _, rfl, rfl, k⟩
  · obtain ⟨fd, F⟩ := T.f_l_suits
    exact F.kp
def spFind (K : PySem.W.Frag) : Sp := fun vs H Q _ => ∃ (wd lo : Addr) (W : Bk) (n : Int), vs = [.ref wd, .int n] ∧ WorldAt H wd lo W ∧ W.ords.length ≤ 1000 ∧
  (∀ o, findO W.ords n = some o → ∀ H', L2.Same H H' → Q (.ref o.ad) H') ∧ (findO W.ords n = none → ∀ H', L2.Same H H' → Q .non H')
theorem scFind : FnScope ["_law_world", "_law_number", "_law_found", "_law_one"] ["_law_world", "_law_number"] (defScope s_l_find) := ⟨rfl, rfl, rfl, by decide +kernel, rfl, by decide +kernel, by decide +kernel⟩
theorem w_l_find (T : Tx K mg) : Fn P w K mg base CX0 1 "_law_find" ["_law_world", "_law_number"] (spFind K) := by
  refine ⟨ok0 T.f_l_find scFind (fun _ _ _ _ _ _ us hl => match us, hl with | [_, _], _ => rfl) (fun vs H Q E h => ?_) (fun cdv A outer s H vs Q E hr h => ?_), T.g_l_find, ?_⟩
  · obtain ⟨wd, lo, W, n, rfl, _⟩ := h
    rfl
  · obtain ⟨wd, lo, W, n, rfl, hW, hlen, k1, k2⟩ := h
    have hu := hu_of hr
    refine ⟨_, pss_cons (ps_setLc (i := 2) (own := [("_law_one", 3)]) (g := gName 3) (tt := tTest (tOp rEq (tDGet (tVar 3) (tC (.str "number"))) (tVar 1))) (te := tVar 3) rfl scFind.nd rfl rfl (sw_true rfl rfl rfl (by decide +kernel)) (pi_list (pe_dget hu (pv 0) pe_str (fun _ _ => rfl)))
        (blkOk_by (N := ["_law_world", "_law_number", "_law_found", "_law_one"]) (sc := defScope s_l_find) (by decide +kernel)) (fun _ _ _ _ _ => pg_name (i := 3) scFind.nd rfl (Or.inl rfl)) (fun _ _ _ _ _ => pts_one (pt_cmpR op_eq (pe_dget hu (pv 3) pe_str (fun _ _ => rfl)) (pv 1) (nomark _))) (fun _ _ _ _ _ => pv 3))
      (pss_one (ps_ret (pe_ifExp (pt_truth (pv 2) (by intro _; rfl)) (pe_ix (r := rIx K) ix_seq (pv 2) pe_int (fun _ _ => rfl)) pe_non))), ?_⟩
    refine wget rfl hW.dc (v := .ref lo) rfl ⟨lo, rfl, ⟨_, .inl (.inl hW.ls)⟩, fun D hD => ?_⟩
    refine lc_rel (K := K) (zs := W.ords) (enc := refO) (p := fun o => decide (o.num = n)) (R := fun z y _ => y = refO z) (.inl (.inl hW.ls)) (Nat.le_trans hlen (by decide)) hD (fun _ _ _ _ _ _ _ h => h) ?_ ?_
    · intro o ho H1 s1 Qy Qn qy qn
      refine ⟨rfl, wget rfl (s1 _ _ (hW.os o ho)) (v := .int o.num) rfl ⟨_, rfl, rfl, _, rfl, ?_⟩⟩
      by_cases c : o.num = n
      · exact ifY (by rw [c]) ⟨_, rfl, qy (decide_eq_true c) _ H1 (L2.Same.refl _) rfl⟩
      · exact ifN (fun z => c (V.int.inj z)) (qn (decide_eq_false c) H1 (L2.Same.refl _))
    intro H1 ys1 s1 hDy hP
    have e1 := paired_eq hP
    rw [e1] at hDy
    have eh : (W.ords.filter fun o => decide (o.num = n)).head? = findO W.ords n := List.head?_filter
    cases ef : W.ords.filter fun o => decide (o.num = n) with
    | nil =>
      rw [ef] at hDy eh
      exact ⟨_, rfl, _, .inl ⟨[], .inl (.inl hDy), rfl⟩, iteF (k2 eh.symm H1 s1)⟩
    | cons o l =>
      rw [ef] at hDy eh
      exact ⟨_, rfl, true, .inl ⟨_, .inl (.inl hDy), rfl⟩, iteT (lix rfl hDy (atI_nat (j := 0) rfl) (k1 o eh.symm H1 s1))⟩
  · obtain ⟨fd, F⟩ := T.f_l_find
    exact F.kp
def priceK (p : Option Int) (y : Way) : Bool := match p with
  | none => !decide (y.str = ("rest" : PySem.Str))
  | some q => decide (1 ≤ q) && decide (q ≤ 1000000000)
def showsK (s : Option Int) (m : Int) (y : Way) : Bool := match s with
  | none => true
  | some s => decide (y.str = ("rest" : PySem.Str)) && (decide (1 ≤ s) && decide (s ≤ m))
theorem goodK {b : Bool} {p : Option Int} {m : Int} {s : Option Int} {y : Way} : goodO (sideStr b) p m s y.str = ((isCount m && priceK p y) && showsK s m y) := by
  have e : goodO (sideStr b) p m s y.str = ((((goodSide (sideStr b) && goodWay y.str) && isCount m) && priceK p y) && showsK s m y) := by cases p <;> cases s <;> rfl
  rw [e, goodSide_str, goodWay_str]
  rfl
def spLGood (K : PySem.W.Frag) : Sp := fun vs H Q _ => ∃ (b : Bool) (p : Option Int) (m : Int) (s : Option Int) (y : Way), vs = [.str (sideStr b), optV p, .int m, optV s, .str y.str] ∧ ∀ H', L2.Same H H' → Q (.bl (goodO (sideStr b) p m s y.str)) H'
theorem scLGood : FnScope ["_law_side_here", "_law_price_here", "_law_many", "_law_shows", "_law_way", "_law_good_here"] ["_law_side_here", "_law_price_here", "_law_many", "_law_shows", "_law_way"] (defScope s_l_good) := ⟨rfl, rfl, rfl, by decide +kernel, rfl, by decide +kernel, by decide +kernel⟩
theorem chain_k {σ : L2.St} {H : Hp} {Q : VK} {i : Nat} {n m : Int} {tc : TE} (h : σ[i]? = some (some (.int n))) (hc : ∀ R : VK, R (.int m) H → tc σ H R) (q : Q (.bl (decide (1 ≤ n) && decide (n ≤ m))) H) :
    tChain (rI0 fun i j => V.bl (decide (i ≤ j))) (rI0 fun i j => V.bl (decide (i ≤ j))) (tC (.int 1)) (tVar i) tc σ H Q := by
  refine ⟨_, h, _, _, rfl, rfl, _, rfl, ?_⟩
  cases h1 : decide (1 ≤ n) with
  | false =>
    rw [h1] at q
    exact iteF q
  | true =>
    rw [h1] at q
    exact iteT (hc _ ⟨_, _, rfl, rfl, q⟩)
theorem w_l_good (T : Tx K mg) : Fn P w K mg base CX0 1 "_law_good" ["_law_side_here", "_law_price_here", "_law_many", "_law_shows", "_law_way"] (spLGood K) := by
  refine ⟨ok0 T.f_l_good scLGood (fun _ _ _ _ _ _ us hl => match us, hl with | [_, _, _, _, _], _ => rfl) (fun vs H Q E h => ?_) (fun cdv A outer s H vs Q E hr h => ?_), T.g_l_good, ?_⟩
  · obtain ⟨b, p, m, sv, y, rfl, _⟩ := h
    rfl
  · obtain ⟨b, p, m, sv, y, rfl, k⟩ := h
    refine ⟨_, pss_cons (ps_mid (ps_set (i := 5) scLGood.nd rfl (Or.inl rfl) (pe_and (pe_cmpR op_in_seq (pv 0) (pe_tup (pa_cons pe_str (pa_cons pe_str pa_nil))) (by rfl)) (pe_and (pe_cmpR op_in_seq (pv 4) (pe_tup (pa_cons pe_str (pa_cons pe_str (pa_cons pe_str pa_nil)))) (by rfl))
        (pe_one (pe_chain op_le op_le pe_int (pv 2) pe_int))))))
      (pss_cons (ps_mid (ps_set (i := 5) scLGood.nd rfl (Or.inl rfl) (pe_and (pv 5) (pe_one (pe_ifExp (pt_cmp (pc_notN (pv 1))) (pe_chain op_le op_le pe_int (pv 1) pe_int) (pe_cmpR op_ne (pv 4) pe_str (nomark _)))))))
      (pss_one (ps_ret (pe_and (pv 5) (pe_one (pe_or (pe_cmp (pc_isN (pv 3)) rfl) (pe_one (pe_and (pe_cmpR op_eq (pv 4) pe_str (nomark _)) (pe_one (pe_chain op_le op_le pe_int (pv 3) (pv 2))))))))))), ?_⟩
    refine ⟨fun σ' H' => L2.Same H H' ∧ σ' = [some (.str (sideStr b)), some (optV p), some (.int m), some (optV sv), some (.str y.str), some (.bl (isCount m))], ?_, ?_⟩
    · refine ⟨_, rfl, by show 2 ≤ sizeLine; decide, fun t ht => ⟨t, _, rfl, .inr (SqT.of upd_same), rfl, rfl, _, rfl, ?_⟩⟩
      have s1 := same_new (o := .tup [V.str "buy", V.str "sell"]) ht
      have i1 : inV (V.str (sideStr b)) [V.str "buy", V.str "sell"] = true := by cases b <;> decide +kernel
      have i2 : inV (V.str y.str) [V.str "rest", V.str "now", V.str "whole"] = true := by cases y <;> decide +kernel
      show if inV (V.str (sideStr b)) [V.str "buy", V.str "sell"] = true then _ else _
      rw [i1]
      refine iteT ⟨_, rfl, by show 3 ≤ sizeLine; decide, fun t2 ht2 => ⟨t2, _, rfl, .inr (SqT.of upd_same), rfl, rfl, _, rfl, ?_⟩⟩
      show if inV (V.str y.str) [V.str "rest", V.str "now", V.str "whole"] = true then _ else _
      rw [i2]
      exact iteT (chain_k rfl (fun R q => q) ⟨same_upd s1 ht2, rfl⟩)
    rintro σ' H1 ⟨s1, rfl⟩
    refine ⟨fun σ' H' => H' = H1 ∧ σ' = [some (.str (sideStr b)), some (optV p), some (.int m), some (optV sv), some (.str y.str), some (.bl (isCount m && priceK p y))], ?_, ?_⟩
    · refine ⟨_, rfl, _, rfl, ?_⟩
      cases hc : isCount m with
      | false => exact iteF ⟨rfl, rfl⟩
      | true =>
        refine iteT ⟨_, rfl, _, rfl, ?_⟩
        rw [optV_non]
        cases p with
        | none => exact iteF ⟨_, rfl, rfl, rfl, by rw [dec_str]; rfl⟩
        | some q => exact iteT (chain_k rfl (fun R q => q) ⟨rfl, rfl⟩)
    rintro σ' H2 ⟨rfl, rfl⟩
    have k := k _ s1
    rw [goodK] at k
    refine ⟨_, rfl, _, rfl, ?_⟩
    cases hc : (isCount m && priceK p y) with
    | false =>
      rw [hc] at k
      exact iteF k
    | true =>
      rw [hc] at k
      refine iteT ⟨_, rfl, _, rfl, ?_⟩
      rw [optV_non]
      cases sv with
      | none => exact iteT k
      | some sv =>
        refine iteF ⟨_, rfl, rfl, _, rfl, ?_⟩
        rw [dec_str]
        have e : showsK (some sv) m y = (decide (y.str = ("rest" : PySem.Str)) && (decide (1 ≤ sv) && decide (sv ≤ m))) := rfl
        rw [e] at k
        cases hy : decide (y.str = ("rest" : PySem.Str)) with
        | false =>
          rw [hy] at k
          exact iteF k
        | true =>
          rw [hy] at k
          exact iteT (chain_k rfl (fun R q => ⟨_, rfl, q⟩) k)
  · obtain ⟨fd, F⟩ := T.f_l_good
    exact F.kp
end
end FB

set_option maxRecDepth 100000
set_option maxHeartbeats 4000000
set_option pp.maxSteps 400
/-! The law's own book: new, call, cancel, change, meet. -/
namespace FB
open PySem PySem.Spec PyProof.Rows L2
section
variable {P : Program} {w : World} {K : PySem.W.Frag} {mg : Str → Option Value} {base : Heap}
def spWNew (K : PySem.W.Frag) : Sp := fun vs H Q _ => vs = [] ∧ ∀ wd lo H', WorldAt H' wd lo emptyB → L2.Same H H' → H wd = none → H lo = none → Q (.ref wd) H'
theorem scWNew : FnScope [] [] (defScope s_l_new) := ⟨rfl, rfl, rfl, by decide +kernel, rfl, by decide +kernel, by decide +kernel⟩
theorem w_l_new (T : Tx K mg) : Fn P w K mg base CX0 1 "_law_new" [] (spWNew K) := by
  refine ⟨ok0 T.f_l_new scWNew (fun _ _ _ _ _ _ us hl => match us, hl with | [], _ => rfl) (fun vs H Q E h => ?_) (fun cdv A outer s H vs Q E hr h => ?_), T.g_l_new, ?_⟩
  · rw [h.1] <;> rfl
  · obtain ⟨rfl, k⟩ := h
    refine ⟨_, pss_one (ps_ret (pe_disp (pps_cons pe_str (pe_lst pa_nil) (pps_cons pe_str pe_int (pps_cons pe_str pe_int (pps_cons pe_str pe_non (pps_cons pe_str pe_int (pps_cons pe_str pe_bl pps_nil)))))) rfl rfl (by intro z; cases z) (by decide))), ?_⟩
    refine fun wd hwd => ⟨by show 0 ≤ sizeLine; decide, fun lo hlo => ⟨?_, wldD lo emptyB, rfl, by show 6 ≤ 15; decide, ?_⟩⟩
    · rw [upd_ne (ne_of_none upd_same hlo)]
      exact upd_same
    · have em : mergeK [] (wldD lo emptyB) = wldD lo emptyB := rfl
      rw [em]
      have hne : wd ≠ lo := ne_of_none upd_same hlo
      have hlo' : H lo = none := by
        rw [upd_ne hne.symm] at hlo
        exact hlo
      refine k wd lo _ ⟨upd_same, ?_, nofun, List.nodup_nil⟩ (fun b o e => ?_) hwd hlo'
      · rw [upd_ne hne.symm]
        exact upd_same
      · rw [upd_ne (ne_of_none e hwd), upd_ne (ne_of_none e hlo'), upd_ne (ne_of_none e hwd)]
        exact e
  · obtain ⟨fd, F⟩ := T.f_l_new
    exact F.kp
def spWCall (K : PySem.W.Frag) : Sp := fun vs H Q _ => ∃ (wd lo : Addr) (W : Bk), vs = [.ref wd] ∧ WorldAt H wd lo W ∧ (W.calling = true → Q (.str "now") H) ∧
  (W.calling = false → ∀ H', WorldAt H' wd lo { W with calling := true } → WStep [] wd lo W H lo { W with calling := true } H' → Q .non H')
theorem scWCall : FnScope ["_law_world"] ["_law_world"] (defScope s_l_call) := ⟨rfl, rfl, rfl, by decide +kernel, rfl, by decide +kernel, by decide +kernel⟩
theorem w_l_call (T : Tx K mg) : Fn P w K mg base CX0 1 "_law_call" ["_law_world"] (spWCall K) := by
  refine ⟨ok0 T.f_l_call scWCall (fun _ _ _ _ _ _ us hl => match us, hl with | [_], _ => rfl) (fun vs H Q E h => ?_) (fun cdv A outer s H vs Q E hr h => ?_), T.g_l_call, ?_⟩
  · obtain ⟨wd, lo, W, rfl, _⟩ := h
    rfl
  · obtain ⟨wd, lo, W, rfl, hW, k1, k2⟩ := h
    have hu := hu_of hr
    refine ⟨_, pss_cons (ps_if (pt_val (pe_dget hu (pv 0) pe_str (fun _ _ => rfl))) (pss_one (ps_ret pe_str)) pss_nil)
      (pss_cons (ps_dput hu (pv 0) pe_str pe_bl rfl)
      (pss_one (ps_ret pe_non))), ?_⟩
    refine wget rfl hW.dc (v := .bl W.calling) rfl ⟨_, rfl, ?_⟩
    cases hc : W.calling with
    | true => exact iteT (k1 hc)
    | false =>
      refine iteF ⟨_, rfl, wd, _, rfl, .inl ⟨_, Sum.inr "calling", hW.dc, rfl, by show 6 < sizeLine; decide, rfl⟩, ?_⟩
      rw [put_calling]
      have g := fld_heap (W' := { W with calling := true }) hW rfl
      exact k2 hc _ g.1 g.2
  · obtain ⟨fd, F⟩ := T.f_l_call
    exact F.kp
def spWCancel (K : PySem.W.Frag) : Sp := fun vs H Q _ => ∃ (wd lo : Addr) (B W : Bk) (n : Int), vs = [.ref wd, .int n] ∧ WorldAt H wd lo W ∧ BkOk B ∧ Eqv B W ∧ W.ords.length ≤ 1000 ∧
  (∀ o, findO B.ords n = some o → ∀ lo' W' H', WorldAt H' wd lo' W' → Eqv (cancelB B n) W' → WStep [] wd lo W H lo' W' H' → Q (.int o.rest) H') ∧ (findO B.ords n = none → ∀ H', L2.Same H H' → Q (.str "none") H')
theorem scWCancel : FnScope ["_law_world", "_law_number", "_law_one"] ["_law_world", "_law_number"] (defScope s_l_cancel) := ⟨rfl, rfl, rfl, by decide +kernel, rfl, by decide +kernel, by decide +kernel⟩
theorem w_l_cancel (T : Tx K mg) : Fn P w K mg base CX0 2 "_law_cancel" ["_law_world", "_law_number"] (spWCancel K) := by
  refine ⟨ok0 T.f_l_cancel scWCancel (fun _ _ _ _ _ _ us hl => match us, hl with | [_, _], _ => rfl) (fun vs H Q E h => ?_) (fun cdv A outer s H vs Q E hr h => ?_), T.g_l_cancel, ?_⟩
  · obtain ⟨wd, lo, B, W, n, rfl, _⟩ := h
    rfl
  · obtain ⟨wd, lo, B, W, n, rfl, hW, ok, hE, hlen, k1, k2⟩ := h
    have hu := hu_of hr
    have GF : Fn P w K mg base CX0 1 "_law_find" ["_law_world", "_law_number"] (spFind K) := w_l_find T
    have GG : Fn P w K mg base CX0 1 "_law_gone" ["_law_world", "_law_number"] (spGone K) := w_l_gone T
    refine ⟨_, pss_cons (ps_set (i := 2) scWCancel.nd rfl (Or.inl rfl) (pe_fn GF hr rfl pass0 (pa_cons (pv 0) (pa_cons (pv 1) pa_nil))))
      (pss_cons (ps_if (pt_cmp (pc_isN (pv 2))) (pss_one (ps_ret pe_str)) pss_nil)
      (pss_cons (ps_expr (pe_fn GG hr rfl pass0 (pa_cons (pv 0) (pa_cons (pv 1) pa_nil))))
      (pss_one (ps_ret (pe_dget hu (pv 2) pe_str (fun _ _ => rfl)))))), ?_⟩
    refine ⟨_, rfl, _, rfl, wd, lo, W, n, rfl, hW, hlen, fun o' eo' H1 s1 => ?_, fun en H1 s1 => ?_⟩
    · obtain ⟨hin, en⟩ := find_some eo'
      obtain ⟨o, hob, eo⟩ := hE.back hin
      have ef : findO B.ords n = some o := by
        rw [← en, ← (strip_eq eo).1]
        exact find_mem' ok.ndn hob
      refine ⟨_, rfl, _, rfl, ifN (fun z => nomatch z) ?_⟩
      have hW1 := hW.same s1
      refine ⟨_, rfl, _, rfl, wd, lo, W, n, rfl, hW1, hlen, fun lo2 H2 hW2 st2 kp2 => ?_⟩
      refine wget rfl (kp2 o' hin) (v := .int o'.rest) rfl ?_
      rw [← (strip_eq eo).2.2.2.2.1]
      exact k1 o ef lo2 _ H2 hW2 (hE.drop n) ((WStep.of s1).trans st2)
    · have ef : findO B.ords n = none := by
        cases q : findO B.ords n with
        | none => rfl
        | some o =>
          obtain ⟨o', e', _⟩ := hE.find_some_ ok q
          rw [en] at e'
          cases e'
      exact ⟨_, rfl, _, rfl, ifY rfl (k2 ef H1 s1)⟩
  · obtain ⟨fd, F⟩ := T.f_l_cancel
    exact F.kp
def spWChange (K : PySem.W.Frag) : Sp := fun vs H Q _ => ∃ (wd lo : Addr) (B W : Bk) (n m : Int), vs = [.ref wd, .int n, .int m] ∧ WorldAt H wd lo W ∧ BkOk B ∧ Eqv B W ∧ W.ords.length ≤ 1000 ∧
  (∀ o, findO B.ords n = some o → isCount m = true → ∀ lo' W' H', WorldAt H' wd lo' W' → Eqv (changeB B o m) W' → WStep [] wd lo W H lo' W' H' → Q .non H') ∧
  (∀ o, findO B.ords n = some o → isCount m = false → ∀ H', L2.Same H H' → Q (.str "bad") H') ∧ (findO B.ords n = none → ∀ H', L2.Same H H' → Q (.str "none") H')
theorem scWChange : FnScope ["_law_world", "_law_number", "_law_many", "_law_one", "_law_more"] ["_law_world", "_law_number", "_law_many"] (defScope s_l_change) := ⟨rfl, rfl, rfl, by decide +kernel, rfl, by decide +kernel, by decide +kernel⟩
theorem w_l_change (T : Tx K mg) : Fn P w K mg base CX0 3 "_law_change" ["_law_world", "_law_number", "_law_many"] (spWChange K) := by
  refine ⟨ok0 T.f_l_change scWChange (fun _ _ _ _ _ _ us hl => match us, hl with | [_, _, _], _ => rfl) (fun vs H Q E h => ?_) (fun cdv A outer s H vs Q E hr h => ?_), T.g_l_change, ?_⟩
  · obtain ⟨wd, lo, B, W, n, m, rfl, _⟩ := h
    rfl
  · obtain ⟨wd, lo, B, W, n, m, rfl, hW, ok, hE, hlen, k1, k2, k3⟩ := h
    have hu := hu_of hr
    have GF : Fn P w K mg base CX0 1 "_law_find" ["_law_world", "_law_number"] (spFind K) := w_l_find T
    have GP : Fn P w K mg base CX0 2 "_law_put" ["_law_world", "_law_one"] (spWPut K) := w_l_put T
    have hr1 := hr.mono (j := 1) (by decide)
    refine ⟨_, pss_cons (ps_set (i := 3) scWChange.nd rfl (Or.inl rfl) (pe_fn GF hr1 rfl pass0 (pa_cons (pv 0) (pa_cons (pv 1) pa_nil))))
      (pss_cons (ps_if (pt_cmp (pc_isN (pv 3))) (pss_one (ps_ret pe_str)) pss_nil)
      (pss_cons (ps_if (pt_not (pt_chain op_le op_le pe_int (pv 2) pe_int)) (pss_one (ps_ret pe_str)) pss_nil)
      (pss_cons (ps_set (i := 4) scWChange.nd rfl (Or.inl rfl) (pe_cmpR op_gt (pv 2) (pe_dget hu (pv 3) pe_str (fun _ _ => rfl)) (nomark _)))
      (pss_cons (ps_dput hu (pv 3) pe_str (pv 2) rfl)
      (pss_cons (ps_dput hu (pv 3) pe_str (pe_callB (call_min2 rfl) rfl T.z_min boot_min (pa_cons (pe_dget hu (pv 3) pe_str (fun _ _ => rfl)) (pa_cons (pv 2) pa_nil))) rfl)
      (pss_cons (ps_if (pt_val (pv 4)) (pss_one (ps_expr (pe_fn GP hr rfl pass0 (pa_cons (pv 0) (pa_cons (pv 3) pa_nil))))) pss_nil)
      (pss_one (ps_ret pe_non)))))))), ?_⟩
    refine ⟨_, rfl, _, rfl, wd, lo, W, n, rfl, hW, hlen, fun o' eo' H1 s1 => ?_, fun en H1 s1 => ?_⟩
    · obtain ⟨hin, en⟩ := find_some eo'
      obtain ⟨o, hob, eo⟩ := hE.back hin
      obtain ⟨x1, x2, x3, x4, x5, x6, x7, x8⟩ := strip_eq eo
      have ef : findO B.ords n = some o := by
        rw [← en, ← x1]
        exact find_mem' ok.ndn hob
      have hW1 := hW.same s1
      refine ⟨_, rfl, _, rfl, ifN (fun z => nomatch z) ?_⟩
      have cnt : isCount m = (decide (1 ≤ m) && decide (m ≤ 10000)) := rfl
      refine ⟨_, rfl, _, _, rfl, rfl, _, rfl, ?_⟩
      cases h1 : decide (1 ≤ m) with
      | false => exact iteF ⟨_, rfl, iteT (k2 o ef (by rw [cnt, h1]; rfl) H1 s1)⟩
      | true =>
        refine iteT ⟨_, _, rfl, rfl, _, rfl, ?_⟩
        cases h2 : decide (m ≤ 10000) with
        | false => exact iteT (k2 o ef (by rw [cnt, h1, h2]; rfl) H1 s1)
        | true =>
          have hc : isCount m = true := by rw [cnt, h1, h2]; rfl
          have m1 := of_decide_eq_true h1
          have m2 := of_decide_eq_true h2
          refine iteF ⟨_, rfl, wget rfl (hW1.os o' hin) (v := .int o'.rest) rfl ⟨_, _, rfl, rfl, ?_⟩⟩
          refine ⟨_, rfl, _, rfl, o'.ad, _, rfl, .inl ⟨_, Sum.inr "left", hW1.os o' hin, rfl, by show 8 < sizeLine; decide, rfl⟩, ?_⟩
          rw [put_oleft]
          refine wget rfl upd_same (v := .int o'.part) rfl ⟨_, rfl, _, _, rfl, _, rfl, o'.ad, _, rfl, .inl ⟨_, Sum.inr "shown", upd_same, rfl, by show 8 < sizeLine; decide, rfl⟩, ?_⟩
          rw [upd_upd, put_oshown]
          have okW := hE.ok ok
          have q := ok.os o hob
          have p1 := imin_le_r o.part m
          have p2 := imin_or o.part m
          have p3 := q.part
          have eim : (if m < o'.part then m else o'.part) = imin o'.part m := rfl
          rw [eim]
          have g := ord_heap (o' := { o' with rest := m, part := imin o'.part m }) hW1 okW.ndn hin rfl rfl
          have es : strip { o with rest := m, part := imin o.part m } = strip { o' with rest := m, part := imin o'.part m } := by
            unfold strip
            dsimp only
            rw [x1, x2, x3, x4, x6, x7, x8]
          have hE2 := hE.upd es
          have ok2 : BkOk { B with ords := updO B.ords { o with rest := m, part := imin o.part m } } := upd_ok ok hob rfl rfl ⟨q.price, q.prb, m1, m2, by show 1 ≤ imin o.part m; omega, p1, q.shows, q.num0, q.num, q.pl0, q.pl⟩
          refine ⟨_, rfl, _, rfl, ?_⟩
          show if decide (o'.rest < m) = true then _ else _
          by_cases hm : o'.rest < m
          · refine ifY hm ⟨_, rfl, _, rfl, wd, lo, _, { o' with rest := m, part := imin o'.part m }, rfl, g.1, by show (updO W.ords _).length ≤ 1000; rw [updO_len]; exact hlen, .inl ⟨mem_upd ⟨o', hin, rfl⟩, by show ((updO W.ords _).map (·.num)).Nodup; rw [updO_num]; exact okW.ndn⟩, fun lo3 H3 hW3 st3 => ?_⟩
            refine k1 o ef hc lo3 _ H3 hW3 ?_ (((WStep.of s1).trans g.2).trans (st3.less fun b hb => .inl ⟨_, mem_upd ⟨o', hin, rfl⟩, (List.mem_singleton.mp hb).symm⟩))
            have ec : changeB B o m = ({ B with ords := updO B.ords { o with rest := m, part := imin o.part m } } : Bk).put { o with rest := m, part := imin o.part m } := by
              unfold changeB
              rw [if_pos (by rw [x5]; exact hm), put_upd B (o1 := { o with rest := m }) (o := { o with rest := m }) rfl, put_upd B (o1 := { o with rest := m, part := imin o.part m }) (o := { o with rest := m, part := imin o.part m }) rfl]
              rfl
            rw [ec]
            exact hE2.put ok2.ndn es
          · refine ifN hm ?_
            refine k1 o ef hc lo _ _ g.1 ?_ ((WStep.of s1).trans g.2)
            have ec : changeB B o m = { B with ords := updO B.ords { o with rest := m, part := imin o.part m } } := by
              unfold changeB
              rw [if_neg (by rw [x5]; exact hm)]
            rw [ec]
            exact hE2
    · have ef : findO B.ords n = none := by
        cases q : findO B.ords n with
        | none => rfl
        | some o =>
          obtain ⟨o', e', _⟩ := hE.find_some_ ok q
          rw [en] at e'
          cases e'
      exact ⟨_, rfl, _, rfl, ifY rfl (k3 ef H1 s1)⟩
  · obtain ⟨fd, F⟩ := T.f_l_change
    exact F.kp
end
end FB

set_option maxRecDepth 100000
set_option maxHeartbeats 4000000
set_option pp.maxSteps 400
/-! The law's own book: meet, place. -/
namespace FB
open PySem PySem.Spec PyProof.Rows L2
section
variable {P : Program} {w : World} {K : PySem.W.Frag} {mg : Str → Option Value} {base : Heap}
/-- an order that comes, in the law's book -/
structure NewAt (H : Hp) (wd lo : Addr) (W : Bk) (na : Addr) (oc : Ord) : Prop where
  at_ : H na = some (.dK (newD oc))
  no : ∀ x ∈ W.ords, x.ad ≠ na
theorem NewAt.wd {H : Hp} {wd lo na : Addr} {W : Bk} {oc : Ord} (h : NewAt H wd lo W na oc) (hW : WorldAt H wd lo W) : wd ≠ na := ne_of hW.dc h.at_ key_ne6
theorem NewAt.lo_ {H : Hp} {wd lo na : Addr} {W : Bk} {oc : Ord} (h : NewAt H wd lo W na oc) (hW : WorldAt H wd lo W) : lo ≠ na := ne_of hW.ls h.at_ (by intro z; cases z)
theorem NewAt.step {H H' : Hp} {wd lo lo' na : Addr} {W W' : Bk} {oc : Ord} {ex : List Addr} (h : NewAt H wd lo W na oc) (hW : WorldAt H wd lo W) (st : WStep ex wd lo W H lo' W' H') (hn : na ∉ ex) : NewAt H' wd lo' W' na oc := by
  refine ⟨st.keep na _ h.at_ (h.wd hW).symm (h.lo_ hW).symm h.no hn, fun x hx z => ?_⟩
  rcases st.os_ x hx with ⟨y, hy, e⟩ | e | e
  · exact h.no y hy (e.trans z)
  · rw [z] at e
    exact hn e
  · rw [z, h.at_] at e
    cases e
theorem off_heap {H : Hp} {wd lo na : Addr} {W : Bk} {oc oc2 : Ord} (hW : WorldAt H wd lo W) (h : NewAt H wd lo W na oc) : WorldAt (upd H na (.dK (newD oc2))) wd lo W ∧ WStep [na] wd lo W H lo W (upd H na (.dK (newD oc2))) ∧ NewAt (upd H na (.dK (newD oc2))) wd lo W na oc2 := by
  refine ⟨⟨?_, ?_, fun o ho => ?_, hW.nda⟩, ⟨fun b o e _ _ _ n4 => ?_, fun b e => dom_upd b e, .inl rfl, fun x hx => .inl ⟨x, hx, rfl⟩⟩, ⟨upd_same, h.no⟩⟩
  · rw [upd_ne (h.wd hW)]
    exact hW.dc
  · rw [upd_ne (h.lo_ hW)]
    exact hW.ls
  · rw [upd_ne (h.no o ho)]
    exact hW.os o ho
  · rw [upd_ne (fun z => n4 (by rw [z]; exact List.mem_singleton_self _))]
    exact e
def spMeetW (K : PySem.W.Frag) : Sp := fun vs H Q _ => ∃ (wd lo na q : Addr) (B W : Bk) (oc one one' : Ord) (l : List V), vs = [.ref wd, .ref na, .ref q] ∧ WorldAt H wd lo W ∧ BkOk B ∧ Eqv B W ∧ W.ords.length ≤ 1000 ∧ NewAt H wd lo W na oc ∧ H q = some (.lst (refO one' :: l)) ∧
  one ∈ B.ords ∧ one' ∈ W.ords ∧ strip one = strip one' ∧ 0 < oc.rest ∧
  (one.own = oc.own → ∀ lo' W' H' t, WorldAt H' wd lo' W' → Eqv { B with ords := dropO B.ords one.num } W' → WStep [na] wd lo W H lo' W' H' → NewAt H' wd lo' W' na oc → H t = none → H' t = some (.tup (evV (.out one.num))) → Q (.ref t) H') ∧
  (one.own ≠ oc.own → ∀ lo' W' H' t, WorldAt H' wd lo' W' → Eqv (afterMeet B oc one) W' → WStep [na] wd lo W H lo' W' H' → NewAt H' wd lo' W' na (afterMeetO oc one) → H t = none → H' t = some (.tup (evV (.trade one.num one.pr (cut oc one)))) → Q (.ref t) H')
theorem scMeetW : FnScope ["_law_world", "_law_new_here", "_law_others", "_law_one", "_law_many", "_law_both"] ["_law_world", "_law_new_here", "_law_others"] (defScope s_l_meet) := ⟨rfl, rfl, rfl, by decide +kernel, rfl, by decide +kernel, by decide +kernel⟩
theorem w_l_meet (T : Tx K mg) : Fn P w K mg base CX0 3 "_law_meet" ["_law_world", "_law_new_here", "_law_others"] (spMeetW K) := by
  refine ⟨ok0 T.f_l_meet scMeetW (fun _ _ _ _ _ _ us hl => match us, hl with | [_, _, _], _ => rfl) (fun vs H Q E h => ?_) (fun cdv A outer s H vs Q E hr h => ?_), T.g_l_meet, ?_⟩
  · obtain ⟨wd, lo, na, q, B, W, oc, one, one', l, rfl, _⟩ := h
    rfl
  · obtain ⟨wd, lo, na, q, B, W, oc, one, one', l, rfl, hW, ok, hE, hlen, hN, hq, h1, h1', es, hpos, k1, k2⟩ := h
    have hu := hu_of hr
    have GG : Fn P w K mg base CX0 1 "_law_gone" ["_law_world", "_law_number"] (spGone K) := w_l_gone T
    have GP : Fn P w K mg base CX0 2 "_law_put" ["_law_world", "_law_one"] (spWPut K) := w_l_put T
    have hr1 := hr.mono (j := 1) (by decide)
    refine ⟨_, pss_cons (ps_set (i := 3) scMeetW.nd rfl (Or.inl rfl) (pe_ix (r := rIx K) ix_seq (pv 2) pe_int (fun _ _ => rfl)))
      (pss_cons (ps_if (pt_cmpR op_eq (pe_dget hu (pv 3) pe_str (fun _ _ => rfl)) (pe_dget hu (pv 1) pe_str (fun _ _ => rfl)) (nomark _))
        (pss_cons (ps_expr (pe_fn GG hr1 rfl pass0 (pa_cons (pv 0) (pa_cons (pe_dget hu (pv 3) pe_str (fun _ _ => rfl)) pa_nil))))
        (pss_one (ps_ret (pe_tup (pa_cons pe_str (pa_cons (pe_dget hu (pv 3) pe_str (fun _ _ => rfl)) pa_nil)))))) pss_nil)
      (pss_cons (ps_set (i := 4) scMeetW.nd rfl (Or.inl rfl) (pe_callB (call_min2 rfl) rfl T.z_min boot_min (pa_cons (pe_dget hu (pv 1) pe_str (fun _ _ => rfl)) (pa_cons (pe_dget hu (pv 3) pe_str (fun _ _ => rfl)) pa_nil))))
      (pss_cons (ps_for PassesOwn.never rfl (pi_tup (pe_tup (pa_cons (pv 1) (pa_cons (pv 3) pa_nil)))) (pg_name (i := 5) scMeetW.nd rfl (Or.inl rfl))
        (pss_one (ps_dput hu (pv 5) pe_str (pe_op op_sub (pe_dget hu (pv 5) pe_str (fun _ _ => rfl)) (pv 4)) rfl)))
      (pss_cons (ps_dput hu (pv 3) pe_str (pe_op op_sub (pe_dget hu (pv 3) pe_str (fun _ _ => rfl)) (pv 4)) rfl)
      (pss_cons (ps_dput hu (pv 0) pe_str (pe_dget hu (pv 3) pe_str (fun _ _ => rfl)) rfl)
      (pss_cons (ps_dput hu (pv 0) pe_str (pe_op op_add (pe_dget hu (pv 0) pe_str (fun _ _ => rfl)) (pv 4)) rfl)
      (pss_cons (ps_if (pt_cmpR op_eq (pe_dget hu (pv 3) pe_str (fun _ _ => rfl)) pe_int (nomark _))
          (pss_one (ps_expr (pe_fn GG hr1 rfl pass0 (pa_cons (pv 0) (pa_cons (pe_dget hu (pv 3) pe_str (fun _ _ => rfl)) pa_nil)))))
          (pss_one (ps_if (pt_cmpR op_eq (pe_dget hu (pv 3) pe_str (fun _ _ => rfl)) pe_int (nomark _)) (pss_one (ps_expr (pe_fn GP hr rfl pass0 (pa_cons (pv 0) (pa_cons (pv 3) pa_nil))))) pss_nil)))
      (pss_one (ps_ret (pe_tup (pa_cons pe_str (pa_cons (pe_dget hu (pv 3) pe_str (fun _ _ => rfl)) (pa_cons (pe_dget hu (pv 3) pe_str (fun _ _ => rfl)) (pa_cons (pv 4) pa_nil)))))))))))))), ?_⟩
    obtain ⟨x1, x2, x3, x4, x5, x6, x7, x8⟩ := strip_eq es
    have okW := hE.ok ok
    have q1 := ok.os one h1
    have epr : one'.price = some one.pr := by rw [← x4]; exact q1.price
    have ho1 := hW.os one' h1'
    have nwd := hN.wd hW
    refine lix rfl hq (atI_nat (j := 0) rfl) ?_
    refine wget rfl ho1 (v := .int one'.own) rfl (wget rfl hN.at_ (v := .int oc.own) rfl ⟨rfl, _, rfl, ?_⟩)
    by_cases c : one'.own = oc.own
    · refine ifY (by rw [c]) ?_
      refine ⟨_, rfl, wget rfl ho1 (v := .int one'.num) rfl ⟨wd, lo, W, one'.num, rfl, hW, hlen, fun lo2 H2 hW2 st2 kp2 => ?_⟩⟩
      refine wget rfl (kp2 one' h1') (v := .int one'.num) rfl ⟨by show 2 ≤ sizeLine; decide, fun t ht => ?_⟩
      have s3 := same_new (o := .tup [V.str "out", V.int one'.num]) ht
      have hN2 : H2 na = some (.dK (newD oc)) := st2.keep na _ hN.at_ nwd.symm (hN.lo_ hW).symm hN.no (by simp)
      have hE2 := hE.drop one'.num
      rw [← x1] at hE2 st2 hW2
      refine k1 (x2.trans c) lo2 _ _ t (hW2.same s3) (by rw [x1]; rw [x1] at hE2; exact hE2) (((st2.trans (WStep.of s3)).more fun b hb => by cases hb)) ⟨s3 _ _ hN2, fun x hx => hN.no x (mem_dropO.mp hx).1⟩ (st2.dom _ ht) ?_
      rw [upd_same, x1]
      rfl
    · refine ifN (fun z => c (V.int.inj z)) ?_
      refine wget rfl hN.at_ (v := .int oc.rest) rfl (wget rfl ho1 (v := .int one'.part) rfl ⟨_, _, rfl, ?_⟩)
      have em : (if one'.part < oc.rest then one'.part else oc.rest) = cut oc one := by
        unfold cut imin
        rw [x7]
      rw [em]
      refine ⟨_, rfl, _, rfl, by show 2 ≤ sizeLine; decide, fun tq htq => ⟨tq, rfl, ⟨_, SqT.of upd_same⟩, ?_⟩⟩
      have sT := same_new (o := .tup [V.ref na, V.ref one'.ad]) htq
      have hWt := hW.same sT
      have hNt : NewAt (upd H tq (.tup [V.ref na, V.ref one'.ad])) wd lo W na oc := ⟨sT _ _ hN.at_, hN.no⟩
      obtain ⟨hWa, stA, hNa⟩ := off_heap (oc2 := { oc with rest := oc.rest - cut oc one }) hWt hNt
      have hqT : upd H tq (.tup [V.ref na, V.ref one'.ad]) tq = some (.tup [V.ref na, V.ref one'.ad]) := upd_same
      have hqA : upd (upd H tq (.tup [V.ref na, V.ref one'.ad])) na (.dK (newD { oc with rest := oc.rest - cut oc one })) tq = some (.tup [V.ref na, V.ref one'.ad]) := by
        rw [upd_ne (ne_of_none hN.at_ htq).symm]
        exact hqT
      generalize hHt : upd H tq (.tup [V.ref na, V.ref one'.ad]) = Ht at *
      generalize hHa : upd Ht na (.dK (newD { oc with rest := oc.rest - cut oc one })) = Ha at *
      refine for_tup (K := K) (a := tq) (xs := [V.ref na, V.ref one'.ad]) (fun j σ H' => ∃ v5, σ = [some (.ref wd), some (.ref na), some (.ref q), some (refO one'), some (.int (cut oc one)), v5] ∧ ((j = 0 ∧ H' = Ht) ∨ (j = 1 ∧ H' = Ha) ∨ (j = 2 ∧ H' = upd Ha one'.ad (.dK (ordD { one' with rest := one'.rest - cut oc one })))))
        ⟨none, rfl, .inl ⟨rfl, rfl⟩⟩ (fun j σ H' _ h => ?_) ?_ ?_
      · obtain ⟨_, _, ⟨_, e⟩ | ⟨_, e⟩ | ⟨_, e⟩⟩ := h
        · rw [e]
          exact SqT.of hqT
        · rw [e]
          exact SqT.of hqA
        · rw [e]
          refine SqT.of ?_
          rw [upd_ne (ne_of_none ho1 htq).symm]
          exact hqA
      · rintro j y σ H' hj ⟨v5, rfl, ⟨rfl, rfl⟩ | ⟨rfl, rfl⟩ | ⟨rfl, rfl⟩⟩
        · cases hj
          refine wget rfl hNt.at_ (v := .int oc.rest) rfl ⟨_, rfl, _, _, rfl, rfl, _, rfl, na, _, rfl, .inl ⟨_, Sum.inr "left", hNt.at_, rfl, by show 6 < sizeLine; decide, rfl⟩, ?_⟩
          rw [put_nleft]
          exact ⟨_, rfl, .inr (.inl ⟨rfl, hHa⟩)⟩
        · cases hj
          refine wget rfl (hWa.os one' h1') (v := .int one'.rest) rfl ⟨_, rfl, _, _, rfl, rfl, _, rfl, one'.ad, _, rfl, .inl ⟨_, Sum.inr "left", hWa.os one' h1', rfl, by show 8 < sizeLine; decide, rfl⟩, ?_⟩
          rw [put_oleft]
          exact ⟨_, rfl, .inr (.inr ⟨rfl, rfl⟩)⟩
        · cases hj
      rintro σ H' ⟨v5, rfl, ⟨e, _⟩ | ⟨e, _⟩ | ⟨_, rfl⟩⟩
      · cases e
      · cases e
      refine wget rfl upd_same (v := .int one'.part) rfl ⟨_, rfl, _, _, rfl, rfl, _, rfl, one'.ad, _, rfl, .inl ⟨_, Sum.inr "shown", upd_same, rfl, by show 8 < sizeLine; decide, rfl⟩, ?_⟩
      rw [upd_upd, put_oshown]
      obtain ⟨hWc, stC⟩ := ord_heap (o' := { one' with rest := one'.rest - cut oc one, part := one'.part - cut oc one }) hWa okW.ndn h1' rfl rfl
      have hNc := hNa.step hWa stC (by simp)
      have hoc : upd Ha one'.ad (.dK (ordD { one' with rest := one'.rest - cut oc one, part := one'.part - cut oc one })) one'.ad = some (.dK (ordD { one' with rest := one'.rest - cut oc one, part := one'.part - cut oc one })) := upd_same
      have stc : WStep [na] wd lo W H lo { W with ords := updO W.ords { one' with rest := one'.rest - cut oc one, part := one'.part - cut oc one } } (upd Ha one'.ad (.dK (ordD { one' with rest := one'.rest - cut oc one, part := one'.part - cut oc one }))) := ((WStep.of sT).trans stA).trans (stC.more fun b hb => by cases hb)
      generalize upd Ha one'.ad (.dK (ordD { one' with rest := one'.rest - cut oc one, part := one'.part - cut oc one })) = Hc at *
      refine wget rfl hoc (v := .int one.pr) (by show some (optV one'.price) = _; rw [epr]; rfl) ⟨_, rfl, wd, _, rfl, .inl ⟨_, Sum.inr "last", hWc.dc, rfl, by show 6 < sizeLine; decide, rfl⟩, ?_⟩
      rw [put_last]
      obtain ⟨hWd, stD⟩ := fld_heap (W' := { W with last := some one.pr, ords := updO W.ords { one' with rest := one'.rest - cut oc one, part := one'.part - cut oc one } }) hWc rfl
      have hNd := hNc.step hWc stD (by simp)
      have std := stc.trans (stD.more (ex' := [na]) fun b hb => by cases hb)
      generalize upd Hc wd _ = Hd at *
      refine wget rfl hWd.dc (v := .int W.traded) rfl ⟨_, rfl, _, _, rfl, rfl, _, rfl, wd, _, rfl, .inl ⟨_, Sum.inr "volume", hWd.dc, rfl, by show 6 < sizeLine; decide, rfl⟩, ?_⟩
      rw [put_volume]
      obtain ⟨hWe, stE⟩ := fld_heap (W' := { W with last := some one.pr, traded := W.traded + cut oc one, ords := updO W.ords { one' with rest := one'.rest - cut oc one, part := one'.part - cut oc one } }) hWd rfl
      have hNe := hNd.step hWd stE (by simp)
      have ste := std.trans (stE.more (ex' := [na]) fun b hb => by cases hb)
      generalize upd Hd wd _ = He at *
      have es2 : strip { one with rest := one.rest - cut oc one, part := one.part - cut oc one } = strip { one' with rest := one'.rest - cut oc one, part := one'.part - cut oc one } := by
        unfold strip
        dsimp only
        rw [x1, x2, x3, x4, x5, x6, x7, x8]
      have hE3 : Eqv { B with last := some one.pr, traded := B.traded + cut oc one, ords := updO B.ords { one with rest := one.rest - cut oc one, part := one.part - cut oc one } } { W with last := some one.pr, traded := W.traded + cut oc one, ords := updO W.ords { one' with rest := one'.rest - cut oc one, part := one'.part - cut oc one } } :=
        ⟨(hE.upd es2).os, hE.many, hE.places, rfl, by show W.traded + _ = B.traded + _; rw [hE.traded], hE.calling⟩
      have nd3 : ((updO B.ords { one with rest := one.rest - cut oc one, part := one.part - cut oc one }).map (·.num)).Nodup := by
        rw [updO_num]
        exact ok.ndn
      have m2 : ({ one' with rest := one'.rest - cut oc one, part := one'.part - cut oc one } : Ord) ∈ updO W.ords { one' with rest := one'.rest - cut oc one, part := one'.part - cut oc one } := mem_upd ⟨one', h1', rfl⟩
      have ndw : ((updO W.ords { one' with rest := one'.rest - cut oc one, part := one'.part - cut oc one }).map (·.num)).Nodup := by
        rw [updO_num]
        exact okW.ndn
      have l3 : (updO W.ords { one' with rest := one'.rest - cut oc one, part := one'.part - cut oc one }).length ≤ 1000 := by
        rw [updO_len]
        exact hlen
      have ho3 := hWe.os _ m2
      have eo : afterMeetO oc one = { oc with rest := oc.rest - cut oc one } := rfl
      have tupQ : ∀ (oX : Ord) lo' W' H', H' one'.ad = some (.dK (ordD oX)) → oX.num = one'.num → oX.price = one'.price → WorldAt H' wd lo' W' → Eqv (afterMeet B oc one) W' → WStep [na] wd lo W H lo' W' H' → NewAt H' wd lo' W' na (afterMeetO oc one) →
          ∀ t, H' t = none → Q (.ref t) (upd H' t (.tup [V.str "trade", V.int one'.num, V.int one.pr, V.int (cut oc one)])) := fun oX lo' W' H' _ _ _ hW' hE' st' hN' t ht => by
        have s := same_new (o := .tup [V.str "trade", V.int one'.num, V.int one.pr, V.int (cut oc one)]) ht
        refine k2 (fun z => c (x2.symm.trans z)) lo' W' _ t (hW'.same s) hE' (st'.trans (WStep.of s)) ⟨s _ _ hN'.at_, hN'.no⟩ (st'.dom _ ht) ?_
        rw [upd_same, x1]
        rfl
      have am : afterMeet B oc one = if one.rest - cut oc one = 0 then { B with last := some one.pr, traded := B.traded + cut oc one, ords := dropO B.ords one.num } else if one.part - cut oc one = 0 then ({ B with last := some one.pr, traded := B.traded + cut oc one } : Bk).put { one with rest := one.rest - cut oc one, part := one.part - cut oc one } else { B with last := some one.pr, traded := B.traded + cut oc one, ords := updO B.ords { one with rest := one.rest - cut oc one, part := one.part - cut oc one } } := rfl
      have v1 : ∀ {oX : Ord}, oX.num = one'.num → valV (ordD oX) (Sum.inr "number") = some (V.int one'.num) := fun {oX} e => by
        rw [← e]
        rfl
      have v2 : ∀ {oX : Ord}, oX.price = one'.price → valV (ordD oX) (Sum.inr "price") = some (V.int one.pr) := fun {oX} e => by
        show some (optV oX.price) = _
        rw [e, epr]
        rfl
      refine wget rfl ho3 (v := .int (one'.rest - cut oc one)) rfl ⟨rfl, _, rfl, ?_⟩
      by_cases c1 : one'.rest - cut oc one = 0
      · rw [if_pos (by rw [x5]; exact c1)] at am
        refine ifY (by rw [c1]) ⟨_, rfl, wget rfl ho3 (v := .int one'.num) rfl ⟨wd, lo, _, one'.num, rfl, hWe, l3, fun lo2 H2 hW2 st2 kp2 => ?_⟩⟩
        have ho4 := kp2 _ m2
        have ed : ∀ os : List Ord, dropO (updO os { one' with rest := one'.rest - cut oc one, part := one'.part - cut oc one }) one'.num = dropO os one'.num := fun os => dropO_upd rfl
        refine wget rfl ho4 (v := .int one'.num) rfl (wget rfl ho4 (v2 rfl) ⟨_, rfl, by show 4 ≤ sizeLine; decide, tupQ _ lo2 _ H2 ho4 rfl rfl hW2 ?_ (ste.trans (st2.more fun b hb => by cases hb)) (hNe.step hWe st2 (by simp))⟩)
        rw [am]
        have q := hE3.drop one'.num
        dsimp only at q
        rw [show dropO (updO B.ords { one with rest := one.rest - cut oc one, part := one.part - cut oc one }) one'.num = dropO B.ords one.num by rw [← x1]; exact dropO_upd rfl] at q
        exact q
      · rw [if_neg (by rw [x5]; exact c1)] at am
        refine ifN (fun z => c1 (V.int.inj z)) (wget rfl ho3 (v := .int (one'.part - cut oc one)) rfl ⟨rfl, _, rfl, ?_⟩)
        by_cases c2 : one'.part - cut oc one = 0
        · rw [if_pos (by rw [x7]; exact c2)] at am
          refine ifY (by rw [c2]) ⟨_, rfl, _, rfl, wd, lo, _, { one' with rest := one'.rest - cut oc one, part := one'.part - cut oc one }, rfl, hWe, l3, .inl ⟨m2, ndw⟩, fun lo2 H2 hW2 st2 => ?_⟩
          have st3 := st2.less fun b hb => .inl ⟨_, m2, (List.mem_singleton.mp hb).symm⟩
          have ho4 := hW2.os _ (List.mem_append_right _ (List.mem_singleton_self _))
          refine wget rfl ho4 (v := .int one'.num) rfl (wget rfl ho4 (v2 rfl) ⟨_, rfl, by show 4 ≤ sizeLine; decide, tupQ _ lo2 _ H2 ho4 rfl rfl hW2 ?_ (ste.trans (st3.more fun b hb => by cases hb)) (hNe.step hWe st3 (by simp))⟩)
          rw [am]
          have e := put_upd { B with last := some one.pr, traded := B.traded + cut oc one } (o1 := { one with rest := one.rest - cut oc one, part := one.part - cut oc one }) (o := { one with rest := one.rest - cut oc one, part := one.part - cut oc one }) rfl
          rw [← e]
          exact hE3.put nd3 es2
        · rw [if_neg (by rw [x7]; exact c2)] at am
          refine ifN (fun z => c2 (V.int.inj z)) ?_
          refine wget rfl ho3 (v := .int one'.num) rfl (wget rfl ho3 (v2 rfl) ⟨_, rfl, by show 4 ≤ sizeLine; decide, tupQ _ lo _ He ho3 rfl rfl hWe ?_ ste hNe⟩)
          rw [am]
          exact hE3
  · obtain ⟨fd, F⟩ := T.f_l_meet
    exact F.kp
end
end FB

set_option maxRecDepth 100000
set_option maxHeartbeats 4000000
set_option pp.maxSteps 400
/-! The law's own book: place. -/
namespace FB
open PySem PySem.Spec PyProof.Rows L2
section
variable {P : Program} {w : World} {K : PySem.W.Frag} {mg : Str → Option Value} {base : Heap}
theorem suitsP_ord (o : Ord) (q : Int) : suitsP o.buy o.price q = o.suits q := by
  unfold suitsP Ord.suits
  cases o.price <;> rfl
/-- those of a row that suit: the head does, or none -/
theorem suits_none {os : List Ord} {oc one : Ord} {l : List Ord} (er : row os (!oc.buy) = one :: l) (h : oc.suits one.pr = false) : (row os (!oc.buy)).filter (fun x => oc.suits x.pr) = [] := by
  refine List.filter_eq_nil_iff.mpr fun x hx c => ?_
  have hb := (row_mem.mp hx).2
  have h1b := (row_mem.mp (show one ∈ row os (!oc.buy) by rw [er]; exact List.mem_cons_self)).2
  have hk := head_k1 (by rw [← er]; exact row_sorted os _) x (by rw [← er]; exact hx)
  unfold Ord.suits at h c
  cases hp : oc.price with
  | none =>
    rw [hp] at h
    cases h
  | some q =>
    rw [hp] at h c
    cases hc : oc.buy with
    | true =>
      rw [hc] at h c hb h1b
      rw [k1_sell h1b, k1_sell hb] at hk
      have h := of_decide_eq_false h
      have c := of_decide_eq_true c
      omega
    | false =>
      rw [hc] at h c hb h1b
      rw [k1_buy h1b, k1_buy hb] at hk
      have h := of_decide_eq_false h
      have c := of_decide_eq_true c
      omega
theorem suits_head {os : List Ord} {oc one : Ord} {l : List Ord} (er : row os (!oc.buy) = one :: l) (h : oc.suits one.pr = true) : (row os (!oc.buy)).filter (fun x => oc.suits x.pr) = one :: l.filter (fun x => oc.suits x.pr) := by
  rw [er, List.filter_cons, if_pos h]
theorem Eqv.heads {B W : Bk} (h : Eqv B W) (ok : BkOk B) {side : Bool} {one : Ord} {l : List Ord} (e : row B.ords side = one :: l) : ∃ one' l', row W.ords side = one' :: l' ∧ strip one = strip one' := by
  have q := h.rows ok side
  rw [e] at q
  cases ew : row W.ords side with
  | nil =>
    rw [ew] at q
    cases q
  | cons a l' =>
    rw [ew, List.map_cons, List.map_cons] at q
    exact ⟨a, l', rfl, (List.cons.inj q).1.symm⟩
theorem Eqv.empty {B W : Bk} (h : Eqv B W) (ok : BkOk B) {side : Bool} (e : row B.ords side = []) : row W.ords side = [] := by
  have q := h.rows ok side
  rw [e] at q
  exact List.map_eq_nil_iff.mp q
theorem Eqv.there {B W : Bk} (h : Eqv B W) (ok : BkOk B) (o : Ord) : there W.ords o = there B.ords o := by
  unfold FB.there
  rw [map_strip (f := (·.rest)) (fun _ => rfl) (filter_strip (q := fun x => o.suits x.pr && decide (x.own ≠ o.own)) (fun _ => rfl) (h.rows ok (!o.buy)))]
theorem there_two (os : List Ord) (o : Ord) : ((((row os (!o.buy)).filter fun x => o.suits x.pr).filter fun x => decide (x.own ≠ o.own)).map (·.rest)).sum = there os o := by
  unfold FB.there
  rw [List.filter_filter]
  congr 2
  exact List.filter_congr fun x _ => Bool.and_comm _ _
theorem WorldAt.lst {H : Hp} {wd lo r : Addr} {W : Bk} {xs ys : List V} (h : WorldAt H wd lo W) (e : H r = some (.lst xs)) (n : r ≠ lo) : WorldAt (upd H r (.lst ys)) wd lo W :=
  ⟨by rw [upd_ne (ne_of h.dc e (by intro z; cases z))]; exact h.dc, by rw [upd_ne n.symm]; exact h.ls, fun o ho => by rw [upd_ne (ne_of (h.os o ho) e (by intro z; cases z))]; exact h.os o ho, h.nda⟩
theorem NewAt.lst {H : Hp} {wd lo na r : Addr} {W : Bk} {oc : Ord} {xs ys : List V} (h : NewAt H wd lo W na oc) (e : H r = some (.lst xs)) : NewAt (upd H r (.lst ys)) wd lo W na oc := ⟨by rw [upd_ne (ne_of h.at_ e (by intro z; cases z))]; exact h.at_, h.no⟩
theorem WStep.off {ex : List Addr} {wd lo lo' r : Addr} {W W' : Bk} {H H' : Hp} {o : HO} (a : WStep ex wd lo W H lo' W' H') (h : H r = none) : WStep ex wd lo W H lo' W' (upd H' r o) :=
  ⟨fun b u e n1 n2 n3 n4 => by rw [upd_ne (ne_of_none e h)]; exact a.keep b u e n1 n2 n3 n4, fun b e => a.dom b (dom_upd b e), a.lo_, a.os_⟩
theorem WStep.tup {wd lo lo' na : Addr} {W W' : Bk} {oc : Ord} {H H' : Hp} (a : WStep [na] wd lo W H lo' W' H') (hW : WorldAt H wd lo W) (hN : NewAt H wd lo W na oc) : TupKeep H H' := fun t xs e =>
  a.keep t _ e (ne_of e hW.dc (by intro z; cases z)) (ne_of e hW.ls (by intro z; cases z)) (fun x hx => (ne_of e (hW.os x hx) (by intro z; cases z)).symm) (fun z => ne_of e hN.at_ (by intro z; cases z) (List.mem_singleton.mp z))
theorem WStep.lst {wd lo lo' na r : Addr} {W W' : Bk} {oc : Ord} {H H' : Hp} {ys : List V} (a : WStep [na] wd lo W H lo' W' H') (hW : WorldAt H wd lo W) (hN : NewAt H wd lo W na oc) (e : H r = some (.lst ys)) (n : r ≠ lo) : H' r = some (.lst ys) ∧ r ≠ lo' :=
  ⟨a.keep r _ e (ne_of e hW.dc (by intro z; cases z)) n (fun x hx => (ne_of e (hW.os x hx) (by intro z; cases z)).symm) (fun z => ne_of e hN.at_ (by intro z; cases z) (List.mem_singleton.mp z)), by
    rcases a.lo_ with q | q
    · rw [q]
      exact n
    · exact ne_of_none e q⟩
theorem ifBf {c : Bool} {A B : Prop} (h : c = false) (k : B) : if c = true then A else B := by
  rw [h]
  exact k
theorem ifBt {c : Bool} {A B : Prop} (h : c = true) (k : A) : if c = true then A else B := by
  rw [h]
  exact k
theorem ne_some_upd {H : Hp} {a c : Addr} {u o : HO} (hn : H a = none) (e : H c = some u) : upd H a o c = some u := by
  rw [upd_ne (ne_of_none e hn)]
  exact e
/-- between two turns of the law's place -/
structure WMid (H0 : Hp) (wd lo0 : Addr) (W0 : Bk) (na r : Addr) (B1 : Bk) (o : Ord) (H : Hp) (lo : Addr) (W Bc : Bk) (oc : Ord) (evs : List Ev) (ys : List V) : Prop where
  hW : WorldAt H wd lo W
  hE : Eqv Bc W
  ok : BkOk Bc
  len : W.ords.length ≤ 1000
  hN : NewAt H wd lo W na oc
  like : Like oc o
  cal : Bc.calling = B1.calling
  st : WStep [na] wd lo0 W0 H0 lo W H
  lst : H r = some (.lst ys)
  rlo : r ≠ lo
  pev : Paired (EvAt H) evs ys
  all : matchAll (B1, o) = (evs ++ (matchAll (Bc, oc)).1, (matchAll (Bc, oc)).2)
  mu : evs.length + mu1 (Bc, oc) ≤ 11000
theorem wlenOk {H0 : Hp} {wd lo0 : Addr} {W0 : Bk} {na r : Addr} {B1 : Bk} {o : Ord} {H : Hp} {lo : Addr} {W Bc : Bk} {oc : Ord} {evs : List Ev} {ys : List V} (M : WMid H0 wd lo0 W0 na r B1 o H lo W Bc oc evs ys) : ys.length < sizeLine := by
  have h1 := paired_len M.pev
  have h2 := M.mu
  rw [sizeLine_eq]
  omega
theorem WMid.same {H0 : Hp} {wd lo0 : Addr} {W0 : Bk} {na r : Addr} {B1 : Bk} {o : Ord} {H H' : Hp} {lo : Addr} {W Bc : Bk} {oc : Ord} {evs : List Ev} {ys : List V} (M : WMid H0 wd lo0 W0 na r B1 o H lo W Bc oc evs ys) (s : L2.Same H H') : WMid H0 wd lo0 W0 na r B1 o H' lo W Bc oc evs ys :=
  ⟨M.hW.same s, M.hE, M.ok, M.len, ⟨s _ _ M.hN.at_, M.hN.no⟩, M.like, M.cal, M.st.trans (WStep.of s), s _ _ M.lst, M.rlo, evs_keep M.pev (.of s), M.all, M.mu⟩
/-- one told more -/
theorem WMid.turn {H0 : Hp} {wd lo0 : Addr} {W0 : Bk} {na r : Addr} {B1 : Bk} {o : Ord} {H H' : Hp} {lo lo' : Addr} {W W' Bc Bc' : Bk} {oc oc' : Ord} {evs : List Ev} {ys : List V} {e : Ev} {t : Addr} (M : WMid H0 wd lo0 W0 na r B1 o H lo W Bc oc evs ys) (hr0 : H0 r = none)
    (st1 : step1 (Bc, oc) = some (e, (Bc', oc'))) (hW : WorldAt H' wd lo' W') (hE : Eqv Bc' W') (st : WStep [na] wd lo W H lo' W' H') (hN : NewAt H' wd lo' W' na oc') (et : H' t = some (.tup (evV e))) : WMid H0 wd lo0 W0 na r B1 o (upd H' r (.lst (ys ++ [.ref t]))) lo' W' Bc' oc' (evs ++ [e]) (ys ++ [.ref t]) := by
  have sk := step_ok (s := (Bc, oc)) M.ok st1
  obtain ⟨hl, hn⟩ := st.lst M.hW M.hN M.lst M.rlo
  have tk := st.tup M.hW M.hN
  refine ⟨hW.lst hl hn, hE, sk.ok, ?_, hN.lst hl, sk.like.trans M.like, sk.calling.trans M.cal, (M.st.trans st).off hr0, upd_same, hn, paired_snoc (evs_keep M.pev (tk.trans (.lst hl))) ⟨t, rfl, TupKeep.lst hl _ _ et⟩, ?_, ?_⟩
  · have l1 := hE.len
    have l2 := M.hE.len
    have l3 := sk.len
    have l4 := M.len
    dsimp only at l3
    omega
  · rw [M.all, match_step M.ok st1, List.append_assoc]
    rfl
  · have q : mu1 (Bc', oc') < mu1 (Bc, oc) := sk.mu
    have := M.mu
    rw [List.length_append]
    show evs.length + 1 + _ ≤ _
    omega
def spWPlace (K : PySem.W.Frag) : Sp := fun vs H Q _ => ∃ (wd lo ad : Addr) (B W : Bk) (o : Int) (b : Bool) (p : Option Int) (m : Int) (sv : Option Int) (y : Way), vs = [.ref wd, .int o, .str (sideStr b), optV p, .int m, optV sv, .str y.str] ∧ WorldAt H wd lo W ∧ BkOk B ∧ Eqv B W ∧ W.ords.length ≤ 900 ∧
  (goodO (sideStr b) p m sv y.str = false → ∀ H', L2.Same H H' → Q (.str "bad") H') ∧
  (Parts p m sv y → B.calling = true → y ≠ .rest → ∀ H', L2.Same H H' → Q (.str "now") H') ∧
  (Parts p m sv y → (B.calling = true → y = .rest) → ∀ lo' W' H' t r ys, WorldAt H' wd lo' W' → Eqv (placeB B (newOrd B ad o b p m sv) y).2 W' → WStep [] wd lo W H lo' W' H' → H' t = some (.tup [.int B.many, .ref r]) → H' r = some (.lst ys) → Paired (EvAt H') (placeB B (newOrd B ad o b p m sv) y).1 ys → Q (.ref t) H')
theorem scWPlace : FnScope ["_law_world", "_law_owner", "_law_side_here", "_law_price_here", "_law_many", "_law_shows", "_law_way", "_law_new_here", "_law_other", "_law_there", "_law_told", "_law_enough", "_law_one"] ["_law_world", "_law_owner", "_law_side_here", "_law_price_here", "_law_many", "_law_shows", "_law_way"] (defScope s_l_place) := ⟨rfl, rfl, rfl, by decide +kernel, rfl, by decide +kernel, by decide +kernel⟩
theorem w_l_place (T : Tx K mg) : Fn P w K mg base CX0 5 "_law_place" ["_law_world", "_law_owner", "_law_side_here", "_law_price_here", "_law_many", "_law_shows", "_law_way"] (spWPlace K) := by
  refine ⟨ok0 T.f_l_place scWPlace (fun _ _ _ _ _ _ us hl => match us, hl with | [_, _, _, _, _, _, _], _ => rfl) (fun vs H Q E h => ?_) (fun cdv A outer s H vs Q E hr h => ?_), T.g_l_place, ?_⟩
  · obtain ⟨wd, lo, ad, B, W, o, b, p, m, sv, y, rfl, _⟩ := h
    rfl
  · obtain ⟨wd, lo, ad, B, W, o, b, p, m, sv, y, rfl, hW, ok, hE, hlen, kbad, know, kok⟩ := h
    have hu := hu_of hr
    have GG : Fn P w K mg base CX0 1 "_law_good" ["_law_side_here", "_law_price_here", "_law_many", "_law_shows", "_law_way"] (spLGood K) := w_l_good T
    have GS : Fn P w K mg base CX0 1 "_law_suits" ["_law_side_here", "_law_limit", "_law_price_here"] (spLSuits K) := w_l_suits T
    have GR : Fn P w K mg base CX0 4 "_law_side" ["_law_world", "_law_side_here"] (spWSide K) := w_l_side T
    have GM : Fn P w K mg base CX0 3 "_law_meet" ["_law_world", "_law_new_here", "_law_others"] (spMeetW K) := w_l_meet T
    have GP : Fn P w K mg base CX0 2 "_law_put" ["_law_world", "_law_one"] (spWPut K) := w_l_put T
    have hr1 := hr.mono (j := 1) (by decide)
    have hr2 := hr.mono (j := 2) (by decide)
    have hr3 := hr.mono (j := 3) (by decide)
    refine ⟨_, pss_cons (ps_if (pt_not (pt_val (pe_fn GG hr1 rfl pass0 (pa_cons (pv 2) (pa_cons (pv 3) (pa_cons (pv 4) (pa_cons (pv 5) (pa_cons (pv 6) pa_nil)))))))) (pss_one (ps_ret pe_str)) pss_nil)
      (pss_cons (ps_mid (ps_if (PW.pt (pw_and (pt_val (pe_dget hu (pv 0) pe_str (fun _ _ => rfl))) (pw_and1 (pt_cmpR op_ne (pv 6) pe_str (nomark _))))) (pss_one (ps_ret pe_str)) pss_nil))
      (pss_cons (ps_set (i := 7) scWPlace.nd rfl (Or.inl rfl) (pe_disp (pps_cons pe_str (pe_dget hu (pv 0) pe_str (fun _ _ => rfl)) (pps_cons pe_str (pv 1) (pps_cons pe_str (pv 2) (pps_cons pe_str (pv 3) (pps_cons pe_str (pv 4) (pps_cons pe_str (pv 5) pps_nil)))))) rfl rfl (by intro z; cases z) (by decide)))
      (pss_cons (ps_dput hu (pv 0) pe_str (pe_op op_add (pe_dget hu (pv 0) pe_str (fun _ _ => rfl)) pe_int) rfl)
      (pss_cons (ps_set (i := 8) scWPlace.nd rfl (Or.inl rfl) (pe_dget hu (pe_disp (pps_cons pe_str pe_str (pps_cons pe_str pe_str pps_nil)) rfl rfl (by intro z; cases z) (by decide)) (pv 2) (fun _ _ => rfl)))
      (pss_cons (ps_setLc (i := 9) (own := [("_law_one", 12)]) (g := gName 12) (tt := tB (tCall (spLSuits K) [] E0 (tCons (tVar 2) (tCons (tVar 3) (tCons (tDGet (tVar 12) (tC (.str "price"))) tNil))))) (te := tVar 12) rfl scWPlace.nd rfl rfl (sw_true rfl rfl rfl (by decide +kernel)) (pi_list (pe_fn GR hr rfl pass0 (pa_cons (pv 0) (pa_cons (pv 8) pa_nil))))
        (blkOk_by (N := ["_law_world", "_law_owner", "_law_side_here", "_law_price_here", "_law_many", "_law_shows", "_law_way", "_law_new_here", "_law_other", "_law_there", "_law_told", "_law_enough", "_law_one"]) (sc := defScope s_l_place) (by decide +kernel)) (fun _ _ _ _ _ => pg_name (i := 12) scWPlace.nd rfl (Or.inl rfl)) (fun _ _ _ _ _ => pts_one (pt_val (pe_fn GS hr1 rfl pass0 (pa_cons (pv 2) (pa_cons (pv 3) (pa_cons (pe_dget hu (pv 12) pe_str (fun _ _ => rfl)) pa_nil)))))) (fun _ _ _ _ _ => pv 12))
      (pss_cons (ps_set (i := 10) scWPlace.nd rfl (Or.inl rfl) (pe_lst pa_nil))
      (pss_cons (ps_set (i := 11) scWPlace.nd rfl (Or.inl rfl) (pe_cmpR op_ge (pe_callB (cr_sum rfl) rfl T.z_sum boot_sum (pa_cons (pe_lc (own := [("_law_one", 12)]) (g := gName 12) (tt := tTest (tOp rNe (tDGet (tVar 12) (tC (.str "owner"))) (tVar 1))) (te := tDGet (tVar 12) (tC (.str "left"))) rfl scWPlace.nd (pi_list (pv 9))
        (blkOk_by (N := ["_law_world", "_law_owner", "_law_side_here", "_law_price_here", "_law_many", "_law_shows", "_law_way", "_law_new_here", "_law_other", "_law_there", "_law_told", "_law_enough", "_law_one"]) (sc := defScope s_l_place) (by decide +kernel)) (fun _ _ _ _ _ => pg_name (i := 12) scWPlace.nd rfl (Or.inl rfl)) (fun _ _ _ _ _ => pts_one (pt_cmpR op_ne (pe_dget hu (pv 12) pe_str (fun _ _ => rfl)) (pv 1) (nomark _))) (fun _ _ _ _ _ => pe_dget hu (pv 12) pe_str (fun _ _ => rfl))) pa_nil)) (pv 4) (nomark _)))
      (pss_cons (ps_mid (ps_while PassesOwn.never (PW.pt (pw_and (pt_not (pt_val (pe_dget hu (pv 0) pe_str (fun _ _ => rfl)))) (pw_and (pt_cmpR op_gt (pe_dget hu (pv 7) pe_str (fun _ _ => rfl)) pe_int (nomark _)) (pw_and (pt_truth (pv 9) (by intro _; rfl)) (pw_and1 (PW.pt (pw_or (pt_cmpR op_ne (pv 6) pe_str (nomark _)) (pw_or1 (pt_val (pv 11))))))))))
        (pss_cons (ps_expr (pe_bm PySem.F.plainAttrs_list PySem.F.slot_list_append PySem.F.type_list_append mt_append (pv 10) (pa_cons (pe_fn GM hr3 rfl pass0 (pa_cons (pv 0) (pa_cons (pv 7) (pa_cons (pv 9) pa_nil)))) pa_nil)))
        (pss_one (ps_setLc (i := 9) (own := [("_law_one", 12)]) (g := gName 12) (tt := tB (tCall (spLSuits K) [] E0 (tCons (tVar 2) (tCons (tVar 3) (tCons (tDGet (tVar 12) (tC (.str "price"))) tNil))))) (te := tVar 12) rfl scWPlace.nd rfl rfl (sw_true rfl rfl rfl (by decide +kernel)) (pi_list (pe_fn GR hr rfl pass0 (pa_cons (pv 0) (pa_cons (pv 8) pa_nil))))
        (blkOk_by (N := ["_law_world", "_law_owner", "_law_side_here", "_law_price_here", "_law_many", "_law_shows", "_law_way", "_law_new_here", "_law_other", "_law_there", "_law_told", "_law_enough", "_law_one"]) (sc := defScope s_l_place) (by decide +kernel)) (fun _ _ _ _ _ => pg_name (i := 12) scWPlace.nd rfl (Or.inl rfl)) (fun _ _ _ _ _ => pts_one (pt_val (pe_fn GS hr1 rfl pass0 (pa_cons (pv 2) (pa_cons (pv 3) (pa_cons (pe_dget hu (pv 12) pe_str (fun _ _ => rfl)) pa_nil)))))) (fun _ _ _ _ _ => pv 12))))))
      (pss_cons (ps_if (PW.pt (pw_and (pt_cmpR op_eq (pv 6) pe_str (nomark _)) (pw_and1 (pt_cmpR op_gt (pe_dget hu (pv 7) pe_str (fun _ _ => rfl)) pe_int (nomark _))))) (pss_one (ps_expr (pe_fn GP hr2 rfl pass0 (pa_cons (pv 0) (pa_cons (pv 7) pa_nil))))) pss_nil)
      (pss_one (ps_ret (pe_tup (pa_cons (pe_dget hu (pv 7) pe_str (fun _ _ => rfl)) (pa_cons (pv 10) pa_nil)))))))))))))), ?_⟩
    refine ⟨_, rfl, _, rfl, _, rfl, _, rfl, _, rfl, b, p, m, sv, y, rfl, fun H1 s1 => ⟨_, rfl, ?_⟩⟩
    cases hg : goodO (sideStr b) p m sv y.str with
    | false => exact iteT (kbad hg H1 s1)
    | true =>
      have g := goodO_parts.mp hg
      have hW1 := hW.same s1
      refine iteF ⟨fun σ' H' => H' = H1 ∧ σ' = [some (.ref wd), some (.int o), some (.str (sideStr b)), some (optV p), some (.int m), some (optV sv), some (.str y.str), none, none, none, none, none, none] ∧ (B.calling = true → y = .rest), wget rfl hW1.dc (v := .bl W.calling) rfl ⟨_, rfl, ?_⟩, ?_⟩
      · cases hc : W.calling with
        | false => exact iteF (iteF ⟨rfl, rfl, by rw [← hE.calling, hc]; intro z; cases z⟩)
        | true =>
          have hcB : B.calling = true := by rw [← hE.calling]; exact hc
          refine iteT ⟨_, rfl, rfl, _, rfl, ?_⟩
          rw [ne_str, way_rest]
          by_cases hw : y = .rest
          · rw [decide_eq_true hw]
            exact iteF ⟨rfl, rfl, fun _ => hw⟩
          · rw [decide_eq_false hw]
            exact iteT (know g hcB hw H1 s1)
      rintro σ' H1' ⟨rfl, rfl, hcall⟩
      have thr : ∀ {Dn : Ends} {H : Hp} {lo : Addr} {W : Bk} {na : Addr} {v9 v10 v11 : Option V}, WorldAt H wd lo W → BkOk W → W.ords.length ≤ 1000 →
          (∀ D H', L2.Same H H' → H D = none → H' D = some (.lst (((row W.ords (!b)).filter fun x => (newOrd B ad o b p m sv).suits x.pr).map refO)) → Dn.nx [some (.ref wd), some (.int o), some (.str (sideStr b)), some (optV p), some (.int m), some (optV sv), some (.str y.str), some (.ref na), some (.str (sideStr (!b))), some (.ref D), v10, v11, none] H') →
          (tAsg (tLc (iList K (tCall (spWSide K) [] E0 (tCons (tVar 0) (tCons (tVar 8) tNil)))) (gName 12) (tB (tCall (spLSuits K) [] E0 (tCons (tVar 2) (tCons (tVar 3) (tCons (tDGet (tVar 12) (tC (.str "price"))) tNil))))) (tVar 12) [12]) (gName 9)) Dn
            [some (.ref wd), some (.int o), some (.str (sideStr b)), some (optV p), some (.int m), some (optV sv), some (.str y.str), some (.ref na), some (.str (sideStr (!b))), v9, v10, v11, none] H := by
        intro Dn H lo W na v9 v10 v11 hW okW hlen k
        refine ⟨_, rfl, _, rfl, wd, lo, W, !b, rfl, hW, okW, hlen, fun H2 q s2 _ hq => ⟨q, rfl, ⟨_, SqL.of hq⟩, fun D hD => ?_⟩⟩
        refine lc_rel (K := K) (zs := row W.ords (!b)) (enc := refO) (p := fun x => (newOrd B ad o b p m sv).suits x.pr) (R := fun z y _ => y = refO z) (SqL.of hq) (Nat.le_trans (Nat.le_trans (row_len _ _) hlen) (by decide)) hD (fun _ _ _ _ _ _ _ h => h) ?_ ?_
        · intro x hx H3 s3 Qy Qn qy qn
          have hxm := (row_mem.mp hx).1
          refine ⟨rfl, _, rfl, _, rfl, wget rfl (s3 _ _ (s2 _ _ (hW.os x hxm))) (v := .int x.pr) (by show some (optV x.price) = _; rw [(okW.os x hxm).price]; rfl) ⟨b, p, x.pr, rfl, _, rfl, ?_⟩⟩
          rw [show suitsP b p x.pr = (newOrd B ad o b p m sv).suits x.pr from suitsP_ord (newOrd B ad o b p m sv) x.pr]
          cases c : (newOrd B ad o b p m sv).suits x.pr with
          | true => exact iteT ⟨_, rfl, qy c _ H3 (L2.Same.refl _) rfl⟩
          | false => exact iteF (qn c H3 (L2.Same.refl _))
        intro H3 ys3 s3 hD3 hP3
        have e3 := paired_eq hP3
        rw [e3] at hD3
        exact k D H3 (s2.trans s3) (same_free s2 hD) hD3
      generalize hoc : newOrd B ad o b p m sv = oc at thr kok
      have ocn : oc.num = B.many := by rw [← hoc]; rfl
      have ocb : oc.buy = b := by rw [← hoc]; rfl
      have ocr : oc.rest = m := by rw [← hoc]; rfl
      have oco : oc.own = o := by rw [← hoc]; rfl
      refine fun na hna => wget rfl (ne_some_upd hna hW1.dc) (v := .int B.many) (by show some (V.int W.many) = _; rw [hE.many]) ⟨_, rfl, _, rfl, _, rfl, _, rfl, _, rfl, upd_same, newD oc, by rw [← hoc]; rfl, by show 6 ≤ 15; decide, ?_⟩
      have hnx : ∀ x ∈ W.ords, x.ad ≠ na := fun x hx => ne_of_none (hW1.os x hx) hna
      have eNa : upd (upd H1' na (.dK [])) na (.dK (mergeK [] (newD oc))) = upd H1' na (.dK (newD oc)) := by
        rw [upd_upd]
        rfl
      rw [eNa]
      have sA : L2.Same H1' (upd H1' na (.dK (newD oc))) := same_new hna
      have hNa : NewAt (upd H1' na (.dK (newD oc))) wd lo W na oc := ⟨upd_same, hnx⟩
      have hWa := hW1.same sA
      have stA : WStep [na] wd lo W H1' lo W (upd H1' na (.dK (newD oc))) := WStep.of sA
      generalize upd H1' na (.dK (newD oc)) = Ha at *
      refine wget rfl hWa.dc (v := .int W.many) rfl ⟨_, _, rfl, rfl, _, rfl, wd, _, rfl, .inl ⟨_, Sum.inr "many", hWa.dc, rfl, by show 6 < sizeLine; decide, rfl⟩, ?_⟩
      rw [put_many]
      obtain ⟨hWb, stB⟩ := fld_heap (W' := { W with many := W.many + 1 }) hWa rfl
      have hNb := hNa.step hWa stB (by simp)
      have stb := stA.trans (stB.more (ex' := [na]) fun b hb => by cases hb)
      generalize upd Ha wd _ = Hb at *
      refine fun p2 hp2 => ⟨upd_same, [(.inr "buy", .str "sell"), (.inr "sell", .str "buy")], rfl, by show 2 ≤ 15; decide, _, rfl, p2, .str (sideStr (!b)), rfl, .inl ⟨_, Sum.inr (sideStr b), .inl upd_same, rfl, by cases b <;> rfl⟩, ?_⟩
      have sC : L2.Same Hb (upd (upd Hb p2 (.dK [])) p2 (.dK (mergeK [] [(.inr "buy", .str "sell"), (.inr "sell", .str "buy")]))) := fun c u e => by
        rw [upd_ne (ne_of_none e hp2), upd_ne (ne_of_none e hp2)]
        exact e
      have hWc := hWb.same sC
      have hNc : NewAt (upd (upd Hb p2 (.dK [])) p2 (.dK (mergeK [] [(.inr "buy", .str "sell"), (.inr "sell", .str "buy")]))) wd lo { W with many := W.many + 1 } na oc := ⟨sC _ _ hNb.at_, hNb.no⟩
      have stc := stb.trans (WStep.of sC)
      generalize upd (upd Hb p2 _) p2 _ = Hc at *
      have hE1 : Eqv { B with many := B.many + 1 } { W with many := W.many + 1 } := ⟨hE.os, by show W.many + 1 = B.many + 1; rw [hE.many], hE.places, hE.last, hE.traded, hE.calling⟩
      have ok1 := many_ok ok
      have okW1 := hE1.ok ok1
      refine thr (v9 := none) (v10 := none) (v11 := none) hWc okW1 (by show W.ords.length ≤ 1000; omega) fun q Hd sD hqn hq => ?_
      refine ⟨by show 0 ≤ sizeLine; decide, fun r hr0 => ?_⟩
      have sE := same_new (o := .lst []) hr0
      have hrE : upd Hd r (.lst []) r = some (.lst []) := upd_same
      have hr1' : H1' r = none := stc.dom _ (same_free sD hr0)
      have hWe := (hWc.same sD).same sE
      have hNe : NewAt (upd Hd r (.lst [])) wd lo { W with many := W.many + 1 } na oc := ⟨sE _ _ (sD _ _ hNc.at_), hNc.no⟩
      have ste := (stc.trans (WStep.of sD)).trans (WStep.of sE)
      have hqE := sE _ _ hq
      have rlo : r ≠ lo := (ne_of_none (hWc.same sD).ls hr0).symm
      generalize upd Hd r _ = He' at *
      have M0 : WMid H1' wd lo W na r { B with many := B.many + 1 } oc He' lo { W with many := W.many + 1 } { B with many := B.many + 1 } oc [] [] := ⟨hWe, hE1, ok1, by show W.ords.length ≤ 1000; omega, hNe, Like.refl _, rfl, ste, hrE, rlo, .nil, rfl, by
        have l1 := hE.len
        show 0 + (oc.rest.toNat + B.ords.length) ≤ 11000
        have := g.m2
        omega⟩
      refine ⟨_, rfl, q, rfl, ⟨_, SqL.of hqE⟩, fun D hD => ?_⟩
      have hlF : ((row W.ords (!b)).filter fun x => oc.suits x.pr).length ≤ 900 := Nat.le_trans (List.length_filter_le _ _) (Nat.le_trans (row_len _ _) hlen)
      refine lc_rel (K := K) (zs := (row W.ords (!b)).filter fun x => oc.suits x.pr) (enc := refO) (p := fun x => decide (x.own ≠ oc.own)) (R := fun z y _ => y = .int z.rest) (SqL.of hqE) (Nat.le_trans hlF (by decide)) hD (fun _ _ _ _ _ _ _ h => h) ?_ ?_
      · intro x hx H3 s3 Qy Qn qy qn
        have hxm : x ∈ W.ords := (row_mem.mp (List.mem_filter.mp hx).1).1
        have hxo := s3 _ _ (hWe.os x hxm)
        refine ⟨rfl, wget rfl hxo (v := .int x.own) rfl ⟨_, rfl, rfl, _, rfl, ?_⟩⟩
        rw [← oco]
        by_cases c : x.own = oc.own
        · exact iteNS (by rw [c]) (qn (decide_eq_false fun z => z c) H3 (L2.Same.refl _))
        · rw [decide_eq_false (fun z => c (V.int.inj z))]
          exact iteT (wget rfl hxo (v := .int x.rest) rfl (qy (decide_eq_true c) _ H3 (L2.Same.refl _) rfl))
      intro H3 ys3 s3 hD3 hP3
      have esum : ((((row W.ords (!b)).filter fun x => oc.suits x.pr).filter fun x => decide (x.own ≠ oc.own)).map (·.rest)).sum = there B.ords oc := by
        rw [← hE.there ok oc, ← there_two, ocb]
      refine ⟨D, (((row W.ords (!b)).filter fun x => oc.suits x.pr).filter fun x => decide (x.own ≠ oc.own)).map (·.rest), rfl, SqL.of (by rw [hD3, paired_eq hP3, List.map_map]; rfl), ?_⟩
      rw [esum]
      refine ⟨_, rfl, _, _, rfl, rfl, ?_⟩
      have ecf : decide (m ≤ there B.ords oc) = canFill B.ords oc := by
        unfold canFill
        rw [ocr]
      have M1 := M0.same s3
      have hq3 := s3 _ _ hqE
      have m1 := g.m1
      refine ⟨fun σ' H' => ∃ lo6 W6 Bm om evs ys v9, σ' = [some (.ref wd), some (.int o), some (.str (sideStr b)), some (optV p), some (.int m), some (optV sv), some (.str y.str), some (.ref na), some (.str (sideStr (!b))), v9, some (.ref r), some (.bl (decide (m ≤ there B.ords oc))), none] ∧
          WMid H1' wd lo W na r { B with many := B.many + 1 } oc H' lo6 W6 Bm om evs ys ∧ placeB B oc y = (evs, if y = .rest ∧ 0 < om.rest then Bm.put om else Bm), ?_, ?_⟩
      · cases hc : (!B.calling && (decide (y ≠ .whole) || canFill B.ords oc)) with
        | false =>
          have fin : ∃ lo6 W6 Bm om evs ys v9, [some (V.ref wd), some (.int o), some (.str (sideStr b)), some (optV p), some (.int m), some (optV sv), some (.str y.str), some (.ref na), some (.str (sideStr (!b))), some (.ref q), some (.ref r), some (.bl (decide (m ≤ there B.ords oc))), none] = [some (.ref wd), some (.int o), some (.str (sideStr b)), some (optV p), some (.int m), some (optV sv), some (.str y.str), some (.ref na), some (.str (sideStr (!b))), v9, some (.ref r), some (.bl (decide (m ≤ there B.ords oc))), none] ∧
              WMid H1' wd lo W na r { B with many := B.many + 1 } oc H3 lo6 W6 Bm om evs ys ∧ placeB B oc y = (evs, if y = .rest ∧ 0 < om.rest then Bm.put om else Bm) := ⟨lo, _, _, oc, [], [], _, rfl, M1, by
            unfold placeB
            dsimp only
            rw [hc]
            rfl⟩
          refine ⟨fun k σ H' => k = 0 ∧ σ = [some (.ref wd), some (.int o), some (.str (sideStr b)), some (optV p), some (.int m), some (optV sv), some (.str y.str), some (.ref na), some (.str (sideStr (!b))), some (.ref q), some (.ref r), some (.bl (decide (m ≤ there B.ords oc))), none] ∧ H' = H3, ⟨0, rfl, rfl, rfl⟩, ?_⟩
          rintro k σ H' ⟨rfl, rfl, rfl⟩
          obtain ⟨cl, hcl⟩ : ∃ cl, cl = B.calling := ⟨_, rfl⟩
          refine wget rfl M1.hW.dc (v := .bl cl) (by show some (V.bl W.calling) = _; rw [hE.calling, hcl]) ⟨_, rfl, ?_⟩
          cases cl with
          | true => exact iteF (iteF fin)
          | false =>
            rw [← hcl] at hc
            have hc : (decide (y ≠ .whole) || canFill B.ords oc) = false := hc
            obtain ⟨c1, c2⟩ := Bool.or_eq_false_iff.mp hc
            have c1 := of_decide_eq_false c1
            refine iteT (wget rfl M1.hN.at_ (v := .int oc.rest) rfl ⟨_, _, rfl, rfl, _, rfl, ?_⟩)
            rw [decide_eq_true (show (0 : Int) < oc.rest by omega)]
            cases el : (row W.ords (!b)).filter (fun x => oc.suits x.pr) with
            | nil =>
              rw [el] at hq3
              exact iteT ⟨_, rfl, false, .inl ⟨[], SqL.of hq3, rfl⟩, iteF (iteF fin)⟩
            | cons o1 l1 =>
              rw [el] at hq3
              refine iteT ⟨_, rfl, true, .inl ⟨_, SqL.of hq3, rfl⟩, iteT ⟨_, rfl, rfl, _, rfl, ?_⟩⟩
              rw [ne_str, way_whole, decide_eq_true (Classical.not_not.mp c1)]
              exact iteF ⟨_, rfl, _, rfl, ifBf (ecf.trans c2) fin⟩
        | true =>
          have hcal : B.calling = false := by
            cases h : B.calling with
            | true =>
              rw [h] at hc
              cases hc
            | false => rfl
          have hcw : decide (y ≠ .whole) = true ∨ canFill B.ords oc = true := by
            rw [hcal] at hc
            have hc : (decide (y ≠ .whole) || canFill B.ords oc) = true := hc
            exact Bool.or_eq_true_iff.mp hc
          have fin : ∀ {H6 lo6 W6 Bm om evs ys v9}, WMid H1' wd lo W na r { B with many := B.many + 1 } oc H6 lo6 W6 Bm om evs ys → step1 (Bm, om) = none →
              ∃ lo6 W6 Bm om evs ys v9', [some (V.ref wd), some (V.int o), some (V.str (sideStr b)), some (optV p), some (V.int m), some (optV sv), some (V.str y.str), some (V.ref na), some (V.str (sideStr (!b))), v9, some (V.ref r), some (V.bl (decide (m ≤ there B.ords oc))), none] = [some (V.ref wd), some (V.int o), some (V.str (sideStr b)), some (optV p), some (V.int m), some (optV sv), some (V.str y.str), some (V.ref na), some (V.str (sideStr (!b))), v9', some (V.ref r), some (V.bl (decide (m ≤ there B.ords oc))), none] ∧
              WMid H1' wd lo W na r { B with many := B.many + 1 } oc H6 lo6 W6 Bm om evs ys ∧ placeB B oc y = (evs, if y = .rest ∧ 0 < om.rest then Bm.put om else Bm) := fun {H6 lo6 W6 Bm om evs ys v9} M e => ⟨lo6, W6, Bm, om, evs, ys, v9, rfl, M, by
            have ea := M.all
            rw [match_none e, List.append_nil] at ea
            unfold placeB
            dsimp only
            rw [hc, if_pos rfl, ea]⟩
          refine ⟨fun k σ H' => ∃ lo6 W6 Bm om evs ys q, σ = [some (.ref wd), some (.int o), some (.str (sideStr b)), some (optV p), some (.int m), some (optV sv), some (.str y.str), some (.ref na), some (.str (sideStr (!b))), some (.ref q), some (.ref r), some (.bl (decide (m ≤ there B.ords oc))), none] ∧
            WMid H1' wd lo W na r { B with many := B.many + 1 } oc H' lo6 W6 Bm om evs ys ∧ H' q = some (.lst (((row W6.ords (!b)).filter fun x => oc.suits x.pr).map refO)) ∧ k = mu1 (Bm, om), ⟨_, lo, _, _, oc, [], [], q, rfl, M1, hq3, rfl⟩, ?_⟩
          rintro k σ H6 ⟨lo6, W6, Bm, om, evs, ys, q6, rfl, M, hq6, rfl⟩
          refine wget rfl M.hW.dc (v := .bl false) (by show some (V.bl W6.calling) = _; rw [M.hE.calling, M.cal]; show some (V.bl B.calling) = _; rw [hcal]) ⟨_, rfl, ?_⟩
          refine iteT (wget rfl M.hN.at_ (v := .int om.rest) rfl ⟨_, _, rfl, rfl, _, rfl, ?_⟩)
          have ombuy : om.buy = b := M.like.buy.trans ocb
          have omsuits : ∀ x, om.suits x = oc.suits x := fun x => by
            unfold Ord.suits
            rw [M.like.price, M.like.buy]
          by_cases h0 : (0 : Int) < om.rest
          · rw [decide_eq_true h0]
            refine iteT ?_
            cases er : row Bm.ords (!b) with
            | nil =>
              have ew : row W6.ords (!b) = [] := M.hE.empty M.ok er
              rw [ew] at hq6
              exact ⟨_, rfl, false, .inl ⟨[], SqL.of hq6, rfl⟩, iteF (iteF (fin M (step_stop1 (by rw [ombuy]; exact er))))⟩
            | cons one l1 =>
              obtain ⟨one', l1', er', es⟩ := M.hE.heads M.ok er
              have h1 := row_mem.mp (show one ∈ row Bm.ords (!b) by rw [er]; exact List.mem_cons_self)
              have h1' := row_mem.mp (show one' ∈ row W6.ords (!b) by rw [er']; exact List.mem_cons_self)
              have epr : one'.pr = one.pr := by
                unfold Ord.pr
                rw [(strip_eq es).2.2.2.1]
              cases esu : oc.suits one.pr with
              | false =>
                have ew := suits_none (oc := oc) (os := W6.ords) (one := one') (l := l1') (by rw [ocb]; exact er') (by rw [epr]; exact esu)
                rw [ocb] at ew
                rw [ew] at hq6
                exact ⟨_, rfl, false, .inl ⟨[], SqL.of hq6, rfl⟩, iteF (iteF (fin M (step_stop2 (s := (Bm, om)) (by rw [ombuy]; exact er) (by rw [omsuits]; exact esu))))⟩
              | true =>
                have ew := suits_head (oc := oc) (os := W6.ords) (one := one') (l := l1') (by rw [ocb]; exact er') (by rw [epr]; exact esu)
                rw [ocb] at ew
                rw [ew] at hq6
                have orT : ∀ Qt : Bool → Hp → Prop, Qt true H6 → (tOr (tTest (tOp rNe (tVar 6) (tC (.str "whole")))) (tB (tVar 11))) [some (.ref wd), some (.int o), some (.str (sideStr b)), some (optV p), some (.int m), some (optV sv), some (.str y.str), some (.ref na), some (.str (sideStr (!b))), some (.ref q6), some (.ref r), some (.bl (decide (m ≤ there B.ords oc))), none] H6 Qt := fun Qt k => by
                  refine ⟨_, rfl, rfl, _, rfl, ?_⟩
                  rw [ne_str, way_whole]
                  by_cases hw : y = .whole
                  · rw [decide_eq_true hw]
                    refine iteF ⟨_, rfl, _, rfl, ?_⟩
                    rw [ecf]
                    rcases hcw with h | h
                    · exact absurd hw (of_decide_eq_true h)
                    · rw [h]
                      exact k
                  · rw [decide_eq_false hw]
                    exact iteT k
                refine ⟨_, rfl, true, .inl ⟨_, SqL.of hq6, rfl⟩, iteT (orT _ (iteT ⟨_, fun _ _ h => h, ?_⟩))⟩
                have er2 : row Bm.ords (!om.buy) = one :: l1 := by rw [ombuy]; exact er
                have es2 : om.suits one.pr = true := by rw [omsuits]; exact esu
                refine ⟨_, rfl, .inl ⟨rfl, _, SqL.of M.lst⟩, _, rfl, _, rfl, _, rfl, wd, lo6, na, q6, Bm, W6, om, one, one', _, rfl, M.hW, M.ok, M.hE, M.len, M.hN, hq6, h1.1, h1'.1, es, h0, fun eo lo7 W7 H7 t hW7 hE7 st7 hN7 _ et => ?_, fun eo lo7 W7 H7 t hW7 hE7 st7 hN7 _ et => ?_⟩
                · have st := step_out (s := (Bm, om)) h0 er2 es2 eo
                  have sk := step_ok (s := (Bm, om)) M.ok st
                  refine ⟨r, ys, .ref t, rfl, rfl, (st7.lst M.hW M.hN M.lst M.rlo).1, wlenOk M, ?_⟩
                  have M' := M.turn hr1' st hW7 hE7 st7 hN7 et
                  exact thr M'.hW (M'.hE.ok M'.ok) M'.len fun q8 H8 s8 _ hq8 => ⟨_, sk.mu, lo7, W7, _, _, _, _, q8, rfl, M'.same s8, hq8, rfl⟩
                · have st := step_trade (s := (Bm, om)) h0 er2 es2 eo
                  have sk := step_ok (s := (Bm, om)) M.ok st
                  refine ⟨r, ys, .ref t, rfl, rfl, (st7.lst M.hW M.hN M.lst M.rlo).1, wlenOk M, ?_⟩
                  have M' := M.turn hr1' st hW7 hE7 st7 hN7 et
                  exact thr M'.hW (M'.hE.ok M'.ok) M'.len fun q8 H8 s8 _ hq8 => ⟨_, sk.mu, lo7, W7, _, _, _, _, q8, rfl, M'.same s8, hq8, rfl⟩
          · rw [decide_eq_false h0]
            exact iteF (iteF (fin M (step_stop0 h0)))
      · rintro σ' H6 ⟨lo6, W6, Bm, om, evs, ys, v9, rfl, M, epl⟩
        have finQ : ∀ (H7 : Hp) (lo7 : Addr) (W7 Bf : Bk) (kvs : List (Key × V)), H7 na = some (.dK kvs) → valV kvs (Sum.inr "number") = some (.int B.many) → WorldAt H7 wd lo7 W7 → Eqv Bf W7 → WStep [na] wd lo W H1' lo7 W7 H7 → H7 r = some (.lst ys) → Paired (EvAt H7) evs ys → placeB B oc y = (evs, Bf) →
            (tRet (tTup (tCons (tDGet (tVar 7) (tC (.str "number"))) (tCons (tVar 10) tNil)))) { nx := fun _ H' => Q .non H', rt := Q }
            [some (.ref wd), some (.int o), some (.str (sideStr b)), some (optV p), some (.int m), some (optV sv), some (.str y.str), some (.ref na), some (.str (sideStr (!b))), v9, some (.ref r), some (.bl (decide (m ≤ there B.ords oc))), none] H7 := by
          intro H7 lo7 W7 Bf kvs hna7 ev hW7 hE7 st7 hr7 pe7 ep
          refine wget rfl hna7 ev ⟨_, rfl, by show 2 ≤ sizeLine; decide, fun t ht => ?_⟩
          have sm := same_new (o := .tup [V.int B.many, V.ref r]) ht
          refine kok g hcall lo7 W7 _ t r ys (hW7.same sm) (by rw [ep]; exact hE7) (((WStep.of s1).trans (st7.less fun c hc => .inr (by rw [List.mem_singleton.mp hc]; exact hna))).trans (WStep.of sm)) upd_same (sm _ _ hr7) (by rw [ep]; exact evs_keep pe7 (.of sm))
        have omn : valV (newD om) (Sum.inr "number") = some (.int B.many) := by
          show some (V.int om.num) = _
          rw [M.like.num, ocn]
        refine ⟨_, rfl, rfl, _, rfl, ?_⟩
        rw [dec_str, way_rest]
        by_cases hw : y = .rest
        · rw [decide_eq_true hw]
          refine iteT (wget rfl M.hN.at_ (v := .int om.rest) rfl ⟨_, _, rfl, rfl, _, rfl, ?_⟩)
          by_cases h0 : (0 : Int) < om.rest
          · rw [decide_eq_true h0]
            refine iteT ⟨_, rfl, _, rfl, wd, lo6, W6, { om with ad := na }, rfl, M.hW, M.len, .inr ⟨M.hN.at_, M.hN.no⟩, fun lo7 H7 hW7 st7 => ?_⟩
            have hx := hW7.os _ (List.mem_append_right _ (List.mem_singleton_self _))
            refine finQ H7 lo7 _ (Bm.put om) _ hx ?_ hW7 (M.hE.put M.ok.ndn rfl) (M.st.trans st7) (st7.lst M.hW M.hN M.lst M.rlo).1 (evs_keep M.pev (st7.tup M.hW M.hN)) (by rw [epl, if_pos ⟨hw, h0⟩])
            show some (V.int om.num) = _
            rw [M.like.num, ocn]
          · rw [decide_eq_false h0]
            exact iteF (finQ H6 lo6 W6 Bm _ M.hN.at_ omn M.hW M.hE M.st M.lst M.pev (by rw [epl, if_neg fun z => h0 z.2]))
        · rw [decide_eq_false hw]
          exact iteF (iteF (finQ H6 lo6 W6 Bm _ M.hN.at_ omn M.hW M.hE M.st M.lst M.pev (by rw [epl, if_neg fun z => hw z.1])))
  · obtain ⟨fd, F⟩ := T.f_l_place
    exact F.kp
end
end FB

set_option maxRecDepth 100000
set_option maxHeartbeats 4000000
set_option pp.maxSteps 400
/-! The law's own book: wanted, call_price, uncross. -/
namespace FB
open PySem PySem.Spec PyProof.Rows L2
/-! ### min of a list of data -/
def rMinD (K : PySem.W.Frag) : List V → Hp → VK → Prop := fun vs H Q => ∃ (a : Addr) (ys : List V) (d : PyData) (ds : List PyData), vs = [V.ref a] ∧ SqL K H a ys ∧ DpAll K H ys (d :: ds) ∧ PySem.W.AlikeAll (d :: ds) ∧ PyData.canLayAll0 (d :: ds) = true ∧ PyData.depthAll (d :: ds) ≤ 60 ∧
  ∀ (i : Nat) (y : V), ys[i]? = some y → (d :: ds)[i]? = some (PySem.W.minD d ds) → Q y H
theorem vals_at : ∀ {ys : List V} {us : List Value} {i : Nat} {u : Value}, Vals ys us → us[i]? = some u → ∃ y, ys[i]? = some y ∧ RelV y u
  | _, _, _, _, .nil, h => by cases h
  | _ :: _, _ :: _, 0, _, .cons r t, h => by cases h; exact ⟨_, rfl, r⟩
  | _ :: _, _ :: _, i + 1, _, .cons r t, h => by
    obtain ⟨y, hy, ry⟩ := vals_at (i := i) t (by simpa using h)
    exact ⟨y, by simpa using hy, ry⟩
theorem dpAll_at {K : PySem.W.Frag} {H : Hp} : ∀ {ys : List V} {ds : List PyData} {i : Nat} {y : V}, DpAll K H ys ds → ys[i]? = some y → ∃ d, ds[i]? = some d ∧ Dp K H y d
  | _, _, _, _, .nil, h => by cases h
  | _ :: _, _ :: _, 0, _, .cons r t, h => by cases h; exact ⟨_, rfl, r⟩
  | _ :: _, _ :: _, i + 1, _, .cons r t, h => by
    obtain ⟨y, hy, ry⟩ := dpAll_at (i := i) t (by simpa using h)
    exact ⟨y, by simpa using hy, ry⟩
theorem lay_mem : ∀ {l : List PyData}, PyData.canLayAll0 l = true → ∀ x ∈ l, PyData.canLay0 x = true
  | [], _, x, hx => by cases hx
  | a :: l, h, x, hx => by
    have h : (PyData.canLay0 a && PyData.canLayAll0 l) = true := h
    have h := Bool.and_eq_true_iff.mp h
    rcases List.mem_cons.mp hx with e | hx
    · rw [e]
      exact h.1
    · exact lay_mem h.2 x hx
theorem cr_minD {X : Cx} {k : Nat} (hc : X.calm = true) (hr : Room k X.A) : CallR X (.builtin "min") (rMinD X.K) := by
  intro pins s σ H vs us Q I r h
  obtain ⟨a, ys, d, ds, rfl, hs, hp, ha, hl0, hd, q⟩ := h
  obtain ⟨its, rv, hl, _⟩ := I.list hs
  rw [Vals.ref1 r]
  obtain ⟨as, ra⟩ := Dp.readsAll I (d :: ds) ys its hp rv
  have hu := hr.units
  refine PySem.W.min_list_data (I.ok.hd hc) hl.isList (by simpa using ra) ha (by omega) fun i v h' tk bs hv rd hk => ?_
  have hv : its[i]? = some v := by simpa using hv
  obtain ⟨y, hy, ry⟩ := vals_at rv hv
  obtain ⟨e, he, de⟩ := dpAll_at hp hy
  obtain ⟨as2, r2⟩ := Dp.reads I e y v de ry
  have r3 := PySem.W.reads_keeps hk r2
  have eq := PySem.SeqAt.Reads.unique _ _ _ _ _ (lay_mem hl0 e (List.mem_of_getElem? he)) r3 rd
  subst eq
  exact ⟨y, H, I.kept hk, ry, q i y hy he⟩
/-! ### ranks as data -/
def rkD (r : List Int) : PyData := .tuple (r.map PyData.int)
theorem dataLt_4 (x y z u x' y' z' u' : Int) : PySem.W.dataLt (rkD [x, y, z, u]) (rkD [x', y', z', u']) = ltL [x, y, z, u] [x', y', z', u'] := by
  show PySem.W.dataLt (.tuple [.int x, .int y, .int z, .int u]) (.tuple [.int x', .int y', .int z', .int u']) = _
  rw [PySem.W.dataLt_tuple, PySem.W.dataLt_cons (by simp [PySem.W.alike]), PySem.W.dataLt_cons (by simp [PySem.W.alike]), PySem.W.dataLt_cons (by simp [PySem.W.alike]), PySem.W.dataLt_cons (by simp [PySem.W.alike]), PySem.W.dataLt_int, PySem.W.dataLt_int, PySem.W.dataLt_int, PySem.W.dataLt_int]
  have e : PyProof.Rows.lexLt PyProof.Rows.itemOrd (PySem.W.keyToksAll []) (PySem.W.keyToksAll []) = false := PyProof.Rows.lex_irrefl _
  rw [e]
  simp only [PyData.eqv, beq_iff_eq]
  by_cases h1 : x = x' <;> by_cases h2 : y = y' <;> by_cases h3 : z = z' <;> by_cases h4 : u = u' <;> simp [h1, h2, h3, h4, ltL]
theorem rank_four (os : List Ord) (last : Option Int) (p : Int) : ∃ x y z u, rank os last p = [x, y, z, u] := ⟨_, _, _, _, rfl⟩
theorem rank_lt (os : List Ord) (last : Option Int) (p q : Int) : PySem.W.dataLt (rkD (rank os last p)) (rkD (rank os last q)) = ltL (rank os last p) (rank os last q) := by
  obtain ⟨x, y, z, u, e⟩ := rank_four os last p
  obtain ⟨x', y', z', u', e'⟩ := rank_four os last q
  rw [e, e']
  exact dataLt_4 _ _ _ _ _ _ _ _
/-- the least of ranks -/
theorem min_ranks (os : List Ord) (last : Option Int) : ∀ (ps : List Int) (p : Int), ∃ q ∈ p :: ps, PySem.W.minD (rkD (rank os last p)) (ps.map fun p => rkD (rank os last p)) = rkD (rank os last q) ∧ ∀ r ∈ p :: ps, ltL (rank os last r) (rank os last q) = false
  | [], p => ⟨p, List.mem_cons_self, rfl, fun r hr => by
      rw [List.mem_singleton.mp hr]
      exact ltL_irrefl _⟩
  | p2 :: ps, p => by
    have step : PySem.W.minD (rkD (rank os last p)) ((p2 :: ps).map fun p => rkD (rank os last p)) = PySem.W.minD (if ltL (rank os last p2) (rank os last p) = true then rkD (rank os last p2) else rkD (rank os last p)) (ps.map fun p => rkD (rank os last p)) := by
      show (ps.map fun p => rkD (rank os last p)).foldl _ (if PySem.W.dataLt (rkD (rank os last p2)) (rkD (rank os last p)) then rkD (rank os last p2) else rkD (rank os last p)) = _
      rw [rank_lt]
      rfl
    rw [step]
    by_cases c : ltL (rank os last p2) (rank os last p) = true
    · rw [if_pos c]
      obtain ⟨q, hq, e, h⟩ := min_ranks os last ps p2
      refine ⟨q, List.mem_cons_of_mem _ hq, e, fun r hr => ?_⟩
      rcases List.mem_cons.mp hr with z | hr
      · rw [z]
        cases hx : ltL (rank os last p) (rank os last q) with
        | false => rfl
        | true => exact absurd (ltL_trans c hx) (by rw [h p2 List.mem_cons_self]; decide)
      · exact h r hr
    · rw [if_neg c]
      obtain ⟨q, hq, e, h⟩ := min_ranks os last ps p
      refine ⟨q, ?_, e, fun r hr => ?_⟩
      · rcases List.mem_cons.mp hq with z | hq
        · rw [z]
          exact List.mem_cons_self
        · exact List.mem_cons_of_mem _ (List.mem_cons_of_mem _ hq)
      · rcases List.mem_cons.mp hr with z | hr
        · rw [z]
          exact h p List.mem_cons_self
        rcases List.mem_cons.mp hr with z | hr
        · rw [z]
          cases hx : ltL (rank os last p2) (rank os last q) with
          | false => rfl
          | true =>
            rcases ltL_cotrans (rank os last p) hx with y | y
            · exact absurd y c
            · rw [h p List.mem_cons_self] at y
              cases y
        · exact h r (List.mem_cons_of_mem _ hr)
theorem rk_shaped (os : List Ord) (last : Option Int) (p : Int) : SeqAt.shaped (rkD (rank os last p)) = true := by
  unfold SeqAt.shaped
  exact Bool.and_eq_true_iff.mpr ⟨rfl, decide_eq_true (by show max 0 (max 0 (max 0 (max 0 0))) + 1 ≤ 64; decide)⟩
theorem rk_dp {K : PySem.W.Frag} {H : Hp} {os : List Ord} {last : Option Int} {p : Int} {t : Addr} (h : H t = some (.tup ((rank os last p).map V.int))) : Dp K H (.ref t) (rkD (rank os last p)) := .tup (.inl (.inl h)) (dpAll_ints _)
/-- the least of a list of ranks, read as often as it is asked -/
theorem min_least {os : List Ord} {last : Option Int} : ∀ {zs : List Int}, zs ≠ [] → ∃ q ∈ zs, (∀ z ∈ zs, ltL (rank os last z) (rank os last q) = false) ∧ ∀ {K : PySem.W.Frag} {H : Hp} {r : Addr} {ys : List V} {Q : VK}, H r = some (.lst ys) →
    Paired (fun p y => ∃ t, y = .ref t ∧ H t = some (.tup ((rank os last p).map V.int))) zs ys → (∀ t, H t = some (.tup ((rank os last q).map V.int)) → Q (.ref t) H) → rMinD K [.ref r] H Q := by
  intro zs hz
  obtain ⟨p0, pr, ep⟩ : ∃ p0 pr, zs = p0 :: pr := by
    cases zs with
    | nil => exact absurd rfl hz
    | cons p0 pr => exact ⟨p0, pr, rfl⟩
  subst ep
  obtain ⟨q, hq, eqm, hmin⟩ := min_ranks os last pr p0
  refine ⟨q, hq, hmin, fun {K H r ys Q} hr hP k => ?_⟩
  have hdp : DpAll K H ys ((p0 :: pr).map fun p => rkD (rank os last p)) := dpAll_of (F := fun z y => ∃ t, y = .ref t ∧ H t = some (.tup ((rank os last z).map V.int))) (g := fun p => rkD (rank os last p)) (fun z y ⟨t, e, ht⟩ => by rw [e]; exact rk_dp ht) hP
  rw [List.map_cons] at hdp
  have each : ∀ y ∈ rkD (rank os last p0) :: pr.map fun p => rkD (rank os last p), ∃ z, y = rkD (rank os last z) := fun y hy => by
    rcases List.mem_cons.mp hy with e | hy
    · exact ⟨p0, e⟩
    · obtain ⟨z, _, e⟩ := List.mem_map.mp hy
      exact ⟨z, e.symm⟩
  have hal : PySem.W.AlikeAll (rkD (rank os last p0) :: pr.map fun p => rkD (rank os last p)) := ⟨fun y hy z hz => by
    obtain ⟨y', ey⟩ := each y hy
    obtain ⟨z', ez⟩ := each z hz
    rw [ey, ez]
    simp [rkD, rank, PySem.W.alike, PySem.W.alikeAll], fun y hy => by
    obtain ⟨y', ey⟩ := each y hy
    rw [ey]
    exact fun z => nomatch z⟩
  refine ⟨r, ys, _, _, rfl, .inl (.inl hr), hdp, hal, lay_all (g := fun _ => true) fun y hy => ?_, Nat.le_trans (depth_all (n := 1) fun y hy => ?_) (by decide), fun i y hy hd2 => ?_⟩
  · obtain ⟨y', ey⟩ := each y hy
    rw [ey]
    rfl
  · obtain ⟨y', ey⟩ := each y hy
    rw [ey]
    exact Nat.le_refl 1
  · obtain ⟨z, hz, t, rfl, ht⟩ := paired_at hP hy
    have e1 : ((p0 :: pr).map fun p => rkD (rank os last p))[i]? = some (rkD (rank os last z)) := by
      rw [List.getElem?_map, hz]
      rfl
    rw [List.map_cons, hd2, eqm] at e1
    have e2 := Option.some.inj e1
    have e3 : rank os last q = rank os last z := by
      unfold rkD at e2
      injection e2 with e2
      exact (List.map_inj_right fun a b h => PyData.int.inj h).mp e2
    rw [← e3] at ht
    exact k t ht
theorem mn1 {K : PySem.W.Frag} {H : Hp} {Qx : VK} {r : Addr} {σ : L2.St} (h : rMinD K [V.ref r] H Qx) : tNil σ H (fun xs H2 => rMinD K (V.ref r :: xs) H2 Qx) := h
theorem sum_perm {l m : List Int} (h : l.Perm m) : l.sum = m.sum := by
  induction h with
  | nil => rfl
  | cons x _ ih => rw [List.sum_cons, List.sum_cons, ih]
  | swap x y l =>
    rw [List.sum_cons, List.sum_cons, List.sum_cons, List.sum_cons]
    omega
  | trans _ _ a b => exact a.trans b
theorem wanted_any (os : List Ord) (side : Bool) (p : Int) : (((os.filter fun o => o.buy == side).filter fun o => o.suits p).map (·.rest)).sum = FB.wanted os side p := by
  unfold FB.wanted row
  exact sum_perm ((((List.mergeSort_perm _ leO).symm).filter _).map _)
section
variable {P : Program} {w : World} {K : PySem.W.Frag} {mg : Str → Option Value} {base : Heap}
def spWWanted (K : PySem.W.Frag) : Sp := fun vs H Q _ => ∃ (wd lo : Addr) (W : Bk) (side : Bool) (p : Int), vs = [.ref wd, .str (sideStr side), .int p] ∧ WorldAt H wd lo W ∧ BkOk W ∧ W.ords.length ≤ 1000 ∧ ∀ H', L2.Same H H' → Q (.int (FB.wanted W.ords side p)) H'
theorem scWWanted : FnScope ["_law_world", "_law_side_here", "_law_price_here", "_law_rows", "_law_one"] ["_law_world", "_law_side_here", "_law_price_here"] (defScope s_l_wanted) := ⟨rfl, rfl, rfl, by decide +kernel, rfl, by decide +kernel, by decide +kernel⟩
theorem w_l_wanted (T : Tx K mg) : Fn P w K mg base CX0 2 "_law_wanted" ["_law_world", "_law_side_here", "_law_price_here"] (spWWanted K) := by
  refine ⟨ok0 T.f_l_wanted scWWanted (fun _ _ _ _ _ _ us hl => match us, hl with | [_, _, _], _ => rfl) (fun vs H Q E h => ?_) (fun cdv A outer s H vs Q E hr h => ?_), T.g_l_wanted, ?_⟩
  · obtain ⟨wd, lo, W, side, p, rfl, _⟩ := h
    rfl
  · obtain ⟨wd, lo, W, side, p, rfl, hW, ok, hlen, k⟩ := h
    have hu := hu_of hr
    have GS : Fn P w K mg base CX0 1 "_law_suits" ["_law_side_here", "_law_limit", "_law_price_here"] (spLSuits K) := w_l_suits T
    refine ⟨_, pss_cons (ps_setLc (i := 3) (own := [("_law_one", 4)]) (g := gName 4) (tt := tTest (tOp rEq (tDGet (tVar 4) (tC (.str "side"))) (tVar 1))) (te := tVar 4) rfl scWWanted.nd rfl rfl (sw_true rfl rfl rfl (by decide +kernel)) (pi_list (pe_dget hu (pv 0) pe_str (fun _ _ => rfl)))
        (blkOk_by (N := ["_law_world", "_law_side_here", "_law_price_here", "_law_rows", "_law_one"]) (sc := defScope s_l_wanted) (by decide +kernel)) (fun _ _ _ _ _ => pg_name (i := 4) scWWanted.nd rfl (Or.inl rfl)) (fun _ _ _ _ _ => pts_one (pt_cmpR op_eq (pe_dget hu (pv 4) pe_str (fun _ _ => rfl)) (pv 1) (nomark _))) (fun _ _ _ _ _ => pv 4))
      (pss_one (ps_ret (pe_callB (cr_sum rfl) rfl T.z_sum boot_sum (pa_cons (pe_lc (own := [("_law_one", 4)]) (g := gName 4) (tt := tB (tCall (spLSuits K) [] E0 (tCons (tVar 1) (tCons (tDGet (tVar 4) (tC (.str "price"))) (tCons (tVar 2) tNil))))) (te := tDGet (tVar 4) (tC (.str "left"))) rfl scWWanted.nd (pi_list (pv 3))
        (blkOk_by (N := ["_law_world", "_law_side_here", "_law_price_here", "_law_rows", "_law_one"]) (sc := defScope s_l_wanted) (by decide +kernel)) (fun _ _ _ _ _ => pg_name (i := 4) scWWanted.nd rfl (Or.inl rfl)) (fun _ _ _ _ _ => pts_one (pt_val (pe_fn GS hr rfl pass0 (pa_cons (pv 1) (pa_cons (pe_dget hu (pv 4) pe_str (fun _ _ => rfl)) (pa_cons (pv 2) pa_nil)))))) (fun _ _ _ _ _ => pe_dget hu (pv 4) pe_str (fun _ _ => rfl))) pa_nil)))), ?_⟩
    refine wget rfl hW.dc (v := .ref lo) rfl ⟨lo, rfl, ⟨_, .inl (.inl hW.ls)⟩, fun D hD => ?_⟩
    refine lc_rel (K := K) (zs := W.ords) (enc := refO) (p := fun o => o.buy == side) (R := fun z y _ => y = refO z) (.inl (.inl hW.ls)) (Nat.le_trans hlen (by decide)) hD (fun _ _ _ _ _ _ _ h => h) ?_ ?_
    · intro o ho H1 s1 Qy Qn qy qn
      refine ⟨rfl, wget rfl (s1 _ _ (hW.os o ho)) (v := .str (sideStr o.buy)) rfl ⟨_, rfl, rfl, _, rfl, ?_⟩⟩
      rw [side_eq]
      cases c : (o.buy == side) with
      | true => exact iteT ⟨_, rfl, qy c _ H1 (L2.Same.refl _) rfl⟩
      | false => exact iteF (qn c H1 (L2.Same.refl _))
    intro H1 ys1 s1 hDy hP
    have e1 := paired_eq hP
    rw [e1] at hDy
    refine ⟨_, rfl, D, rfl, ⟨_, SqL.of hDy⟩, fun D2 hD2 => ?_⟩
    have hlF : (W.ords.filter fun o => o.buy == side).length ≤ 1000 := Nat.le_trans (List.length_filter_le _ _) hlen
    refine lc_rel (K := K) (zs := W.ords.filter fun o => o.buy == side) (enc := refO) (p := fun o => o.suits p) (R := fun z y _ => y = .int z.rest) (SqL.of hDy) (Nat.le_trans hlF (by decide)) hD2 (fun _ _ _ _ _ _ _ h => h) ?_ ?_
    · intro o ho H2 s2 Qy Qn qy qn
      obtain ⟨hm, hb⟩ := List.mem_filter.mp ho
      have hb : o.buy = side := by simpa using hb
      have hoo := s2 _ _ (s1 _ _ (hW.os o hm))
      have hpr := (ok.os o hm).price
      refine ⟨rfl, _, rfl, wget rfl hoo (v := optV o.price) rfl ⟨_, rfl, side, o.price, p, rfl, _, rfl, ?_⟩⟩
      rw [← hb, suitsP_ord]
      cases c : o.suits p with
      | true => exact iteT (wget rfl hoo (v := .int o.rest) rfl (qy c _ H2 (L2.Same.refl _) rfl))
      | false => exact iteF (qn c H2 (L2.Same.refl _))
    intro H2 ys2 s2 hD3 hP2
    refine ⟨D2, ((W.ords.filter fun o => o.buy == side).filter fun o => o.suits p).map (·.rest), rfl, SqL.of (by rw [hD3, paired_eq hP2, List.map_map]; rfl), ?_⟩
    rw [wanted_any]
    exact k H2 (s1.trans s2)
  · obtain ⟨fd, F⟩ := T.f_l_wanted
    exact F.kp
theorem callPrice_same {B W : Bk} (h : Eqv B W) (ok : BkOk B) : callPrice W.ords W.last = callPrice B.ords B.last := by
  have okW := h.ok ok
  have r1 : ∀ o ∈ B.ords, 0 ≤ o.rest := fun o ho => by have := (ok.os o ho).rest; omega
  have r2 : ∀ o ∈ W.ords, 0 ≤ o.rest := fun o ho => by have := (okW.os o ho).rest; omega
  have prS : ∀ {a b : Ord}, strip a = strip b → a.pr = b.pr := fun {a b} e => by
    unfold Ord.pr
    rw [(strip_eq e).2.2.2.1]
  by_cases hz : W.ords.map (·.pr) = []
  · have e1 : W.ords = [] := List.map_eq_nil_iff.mp hz
    have e2 : B.ords = [] := by
      have := h.len
      rw [e1] at this
      exact List.length_eq_zero_iff.mp this.symm
    rw [e1, e2]
    rfl
  · obtain ⟨q, hq, hmin, _⟩ := min_least (os := W.ords) (last := W.last) hz
    obtain ⟨o, ho, eo⟩ := List.mem_map.mp hq
    rw [callPrice_eq r2 ⟨o, ho, eo⟩ fun x hx => hmin _ (List.mem_map.mpr ⟨x, hx, rfl⟩)]
    obtain ⟨o', ho', e'⟩ := h.back ho
    rw [callPrice_eq (q := q) r1 ⟨o', ho', (prS e').trans eo⟩ fun x hx => ?_, h.wanted ok, h.wanted ok]
    obtain ⟨x', hx', ex⟩ := h.find hx
    have k := hmin _ (List.mem_map.mpr ⟨x', hx', rfl⟩)
    rw [h.rank ok, h.rank ok, prS ex] at k
    exact k
def spWPrice (K : PySem.W.Frag) : Sp := fun vs H Q _ => ∃ (wd lo : Addr) (W : Bk), vs = [.ref wd] ∧ WorldAt H wd lo W ∧ BkOk W ∧ W.ords.length ≤ 1000 ∧ ∀ H' v, L2.Same H H' → PairAt H' (callPrice W.ords W.last) v → Q v H'
theorem scWPrice : FnScope ["_law_world", "_law_ranks", "_law_one", "_law_price_here", "_law_buys", "_law_sells", "_law_far"] ["_law_world"] (defScope s_l_call_price) := ⟨rfl, rfl, rfl, by decide +kernel, rfl, by decide +kernel, by decide +kernel⟩
theorem w_l_call_price (T : Tx K mg) : Fn P w K mg base CX0 3 "_law_call_price" ["_law_world"] (spWPrice K) := by
  refine ⟨ok0 T.f_l_call_price scWPrice (fun _ _ _ _ _ _ us hl => match us, hl with | [_], _ => rfl) (fun vs H Q E h => ?_) (fun cdv A outer s H vs Q E hr h => ?_), T.g_l_call_price, ?_⟩
  · obtain ⟨wd, lo, W, rfl, _⟩ := h
    rfl
  · obtain ⟨wd, lo, W, rfl, hW, ok, hlen, k⟩ := h
    have hu := hu_of hr
    have GW : Fn P w K mg base CX0 2 "_law_wanted" ["_law_world", "_law_side_here", "_law_price_here"] (spWWanted K) := w_l_wanted T
    refine ⟨_, pss_cons (ps_set (i := 1) scWPrice.nd rfl (Or.inl rfl) (pe_lst pa_nil))
      (pss_cons (ps_for PassesOwn.never rfl (pi_list (pe_dget hu (pv 0) pe_str (fun _ _ => rfl))) (pg_name (i := 2) scWPrice.nd rfl (Or.inl rfl))
        (pss_cons (ps_set (i := 3) scWPrice.nd rfl (Or.inl rfl) (pe_dget hu (pv 2) pe_str (fun _ _ => rfl)))
        (pss_cons (ps_set (i := 4) scWPrice.nd rfl (Or.inl rfl) (pe_fn GW hr rfl pass0 (pa_cons (pv 0) (pa_cons pe_str (pa_cons (pv 3) pa_nil)))))
        (pss_cons (ps_set (i := 5) scWPrice.nd rfl (Or.inl rfl) (pe_fn GW hr rfl pass0 (pa_cons (pv 0) (pa_cons pe_str (pa_cons (pv 3) pa_nil)))))
        (pss_cons (ps_mid (ps_set (i := 6) scWPrice.nd rfl (Or.inl rfl) (pe_ifExp (pt_cmp (pc_isN (pe_dget hu (pv 0) pe_str (fun _ _ => rfl)))) pe_int (pe_callB call_abs rfl T.z_abs boot_abs (pa_cons (pe_op op_sub (pv 3) (pe_dget hu (pv 0) pe_str (fun _ _ => rfl))) pa_nil)))))
        (pss_one (ps_expr (pe_bm PySem.F.plainAttrs_list PySem.F.slot_list_append PySem.F.type_list_append mt_append (pv 1) (pa_cons (pe_tup (pa_cons (pe_op op_sub pe_int (pe_callB (call_min2 rfl) rfl T.z_min boot_min (pa_cons (pv 4) (pa_cons (pv 5) pa_nil))))
          (pa_cons (pe_callB call_abs rfl T.z_abs boot_abs (pa_cons (pe_op op_sub (pv 4) (pv 5)) pa_nil)) (pa_cons (pv 6) (pa_cons (pv 3) pa_nil))))) pa_nil)))))))))
      (pss_cons (ps_if (PW.pt (pw_or (pt_not (pt_truth (pv 1) (by intro _; rfl))) (pw_or1 (pt_cmpR op_eq (pe_ix (r := rIx K) ix_seq (pe_callB (cr_minD rfl hr) rfl T.z_min boot_min (pa_cons (pv 1) pa_nil)) pe_int (fun _ _ => rfl)) pe_int (nomark _))))) (pss_one (ps_ret pe_non)) pss_nil)
      (pss_one (ps_ret (pe_tup (pa_cons (pe_ix (r := rIx K) ix_seq (pe_callB (cr_minD rfl hr) rfl T.z_min boot_min (pa_cons (pv 1) pa_nil)) pe_int (fun _ _ => rfl)) (pa_cons (pe_op op_sub pe_int (pe_ix (r := rIx K) ix_seq (pe_callB (cr_minD rfl hr) rfl T.z_min boot_min (pa_cons (pv 1) pa_nil)) pe_int (fun _ _ => rfl))) pa_nil))))))), ?_⟩
    refine ⟨by show 0 ≤ sizeLine; decide, fun r hr0 => ?_⟩
    have s0 := same_new (o := .lst []) hr0
    have hW0 := hW.same s0
    refine wget rfl hW0.dc (v := .ref lo) rfl ⟨lo, rfl, ⟨_, .inl (.inl hW0.ls)⟩, ?_⟩
    refine for_zs (K := K) (a := lo) (zs := W.ords) (enc := refO) (fun i σ H' => L2.Same H H' ∧ ∃ (ys : List V) (v2 v3 v4 v5 v6 : Option V), σ = [some (.ref wd), some (.ref r), v2, v3, v4, v5, v6] ∧ H' r = some (.lst ys) ∧ Paired (fun p y => ∃ t, y = .ref t ∧ H' t = some (.tup ((rank W.ords W.last p).map V.int))) ((W.ords.take i).map (·.pr)) ys)
      ⟨s0, [], none, none, none, none, none, rfl, upd_same, .nil⟩ (fun i σ H' _ h => .inl (.inl (h.1 _ _ hW.ls))) ?_ ?_
    · rintro i o σ H1 hi ⟨s1, ys, v2, v3, v4, v5, v6, rfl, hr1, hP⟩
      have ho : o ∈ W.ords := List.mem_of_getElem? hi
      have hW1 := hW.same s1
      have hpr := (ok.os o ho).price
      refine wget rfl (hW1.os o ho) (v := .int o.pr) (by show some (optV o.price) = _; rw [hpr]; rfl) ?_
      refine ⟨_, rfl, _, rfl, wd, lo, W, true, o.pr, rfl, hW1, ok, hlen, fun H2 s2 => ?_⟩
      have hW2 := hW1.same s2
      refine ⟨_, rfl, _, rfl, wd, lo, W, false, o.pr, rfl, hW2, ok, hlen, fun H3 s3 => ?_⟩
      have hW3 := hW2.same s3
      have s13 := s1.trans (s2.trans s3)
      have hr3 := s3 _ _ (s2 _ _ hr1)
      refine ⟨fun σ' H' => H' = H3 ∧ σ' = [some (.ref wd), some (.ref r), some (refO o), some (.int o.pr), some (.int (FB.wanted W.ords true o.pr)), some (.int (FB.wanted W.ords false o.pr)), some (.int (match W.last with | none => 0 | some l => iabs (o.pr - l)))], ?_, ?_⟩
      · refine wget rfl hW3.dc (v := optV W.last) rfl ⟨_, rfl, ?_⟩
        rw [optV_non]
        cases hl : W.last with
        | none => exact iteT ⟨rfl, rfl⟩
        | some l => exact iteF ⟨_, rfl, wget rfl hW3.dc (v := .int l) (by show some (optV W.last) = _; rw [hl]; rfl) ⟨_, _, rfl, rfl, _, rfl, rfl, rfl⟩⟩
      rintro σ' H3' ⟨rfl, rfl⟩
      have hlenY := paired_len hP
      rw [List.length_map, List.length_take] at hlenY
      refine ⟨_, rfl, .inl ⟨rfl, _, SqL.of hr3⟩, _, rfl, _, rfl, _, _, rfl, _, _, rfl, rfl, _, rfl, _, rfl, _, _, rfl, rfl, _, rfl, _, rfl, _, rfl, by show 4 ≤ sizeLine; decide, fun t ht => ⟨r, ys, .ref t, rfl, rfl, ?_, ?_, ?_⟩⟩
      · exact same_new ht _ _ hr3
      · have h3 : (1000 : Nat) < sizeLine := by decide
        omega
      · have hrk : [V.int (0 - (if FB.wanted W.ords false o.pr < FB.wanted W.ords true o.pr then FB.wanted W.ords false o.pr else FB.wanted W.ords true o.pr)), V.int (if FB.wanted W.ords true o.pr - FB.wanted W.ords false o.pr < 0 then -(FB.wanted W.ords true o.pr - FB.wanted W.ords false o.pr) else FB.wanted W.ords true o.pr - FB.wanted W.ords false o.pr), V.int (match W.last with | none => 0 | some l => iabs (o.pr - l)), V.int o.pr] = (rank W.ords W.last o.pr).map V.int := by
          rw [Int.zero_sub]
          rfl
        rw [hrk]
        have tk : (W.ords.take (i + 1)).map (·.pr) = (W.ords.take i).map (·.pr) ++ [o.pr] := by
          rw [List.take_add_one, hi, List.map_append]
          rfl
        have sm := same_new (o := .tup ((rank W.ords W.last o.pr).map V.int)) ht
        have hr4 := sm _ _ hr3
        have keep : ∀ t' xs, H1 t' = some (.tup xs) → upd (upd H3' t (.tup ((rank W.ords W.last o.pr).map V.int))) r (.lst (ys ++ [.ref t])) t' = some (.tup xs) := fun t' xs e => TupKeep.lst hr4 _ _ (sm _ _ (s3 _ _ (s2 _ _ e)))
        refine ⟨fun b u e => by rw [upd_ne (ne_of_none e hr0)]; exact same_upd s13 ht b u e, ys ++ [.ref t], _, _, _, _, _, rfl, upd_same, ?_⟩
        rw [tk]
        exact paired_snoc (paired_map (fun p y ⟨t', e, h⟩ => ⟨t', e, keep _ _ h⟩) hP) ⟨t, rfl, TupKeep.lst hr4 _ _ upd_same⟩
    · rintro σ H1 ⟨s1, ys, v2, v3, v4, v5, v6, rfl, hr1, hP⟩
      rw [List.take_length] at hP
      have r2 : ∀ o ∈ W.ords, 0 ≤ o.rest := fun o ho => by have := (ok.os o ho).rest; omega
      by_cases hz : W.ords.map (·.pr) = []
      · rw [hz] at hP
        cases hP
        have e1 : W.ords = [] := List.map_eq_nil_iff.mp hz
        refine ⟨_, rfl, false, .inl ⟨[], SqL.of hr1, rfl⟩, iteT (iteT ?_)⟩
        refine k H1 _ s1 ?_
        rw [e1]
        rfl
      · obtain ⟨q, hq, hmin, hmn⟩ := min_least (os := W.ords) (last := W.last) hz
        have hne : ys ≠ [] := fun z => by
          have l1 := paired_len hP
          rw [z] at l1
          exact hz (List.length_eq_zero_iff.mp l1.symm)
        obtain ⟨o, ho, eo⟩ := List.mem_map.mp hq
        have ec := callPrice_eq r2 ⟨o, ho, eo⟩ fun x hx => hmin _ (List.mem_map.mpr ⟨x, hx, rfl⟩)
        have i0 : atI ((rank W.ords W.last q).map V.int) 0 = some (.int (-imin (FB.wanted W.ords true q) (FB.wanted W.ords false q))) := rfl
        have i3 : atI ((rank W.ords W.last q).map V.int) 3 = some (.int q) := rfl
        have ht : ∃ y0 yr, ys = y0 :: yr := by
          cases ys with
          | nil => exact absurd rfl hne
          | cons a b => exact ⟨a, b, rfl⟩
        obtain ⟨y0, yr, ey⟩ := ht
        refine ⟨_, rfl, true, .inl ⟨ys, SqL.of hr1, by rw [ey]; rfl⟩, iteF ⟨_, rfl, ?_⟩⟩
        refine mn1 (hmn hr1 hP fun t0 ht0 => ?_)
        refine .inr (.inl ⟨t0, _, _, _, rfl, rfl, .inl (.inl ht0), i0, rfl, _, rfl, ?_⟩)
        by_cases c : imin (FB.wanted W.ords true q) (FB.wanted W.ords false q) = 0
        · rw [if_pos c] at ec
          refine ifY (by rw [c]; rfl) (k H1 _ s1 ?_)
          rw [ec]
          rfl
        · rw [if_neg c] at ec
          refine ifN (fun z => c (by have := V.int.inj z; omega)) ⟨_, rfl, ?_⟩
          refine mn1 (hmn hr1 hP fun t1 ht1 => ?_)
          refine .inr (.inl ⟨t1, _, _, _, rfl, rfl, .inl (.inl ht1), i3, ?_⟩)
          refine ⟨_, rfl, ?_⟩
          refine mn1 (hmn hr1 hP fun t2 ht2 => ?_)
          refine .inr (.inl ⟨t2, _, _, _, rfl, rfl, .inl (.inl ht2), i0, _, _, rfl, rfl, by show 2 ≤ sizeLine; decide, fun t ht => ?_⟩)
          refine k _ _ (same_upd s1 ht) ?_
          rw [ec]
          refine ⟨t, rfl, ?_⟩
          rw [upd_same]
          show some (HO.tup [V.int q, V.int (0 - -imin (FB.wanted W.ords true q) (FB.wanted W.ords false q))]) = _
          rw [Int.zero_sub, Int.neg_neg]
  · obtain ⟨fd, F⟩ := T.f_l_call_price
    exact F.kp
end
end FB

set_option maxRecDepth 100000
set_option maxHeartbeats 4000000
set_option pp.maxSteps 400
/-! The law's own book: uncross. -/
namespace FB
open PySem PySem.Spec PyProof.Rows L2
theorem WStep.tup0 {wd lo lo' : Addr} {W W' : Bk} {H H' : Hp} (a : WStep [] wd lo W H lo' W' H') (hW : WorldAt H wd lo W) : TupKeep H H' := fun t xs e =>
  a.keep t _ e (ne_of e hW.dc (by intro z; cases z)) (ne_of e hW.ls (by intro z; cases z)) (fun x hx => (ne_of e (hW.os x hx) (by intro z; cases z)).symm) (by simp)
theorem WStep.lst0 {wd lo lo' r : Addr} {W W' : Bk} {H H' : Hp} {ys : List V} (a : WStep [] wd lo W H lo' W' H') (hW : WorldAt H wd lo W) (e : H r = some (.lst ys)) (n : r ≠ lo) : H' r = some (.lst ys) ∧ r ≠ lo' :=
  ⟨a.keep r _ e (ne_of e hW.dc (by intro z; cases z)) n (fun x hx => (ne_of e (hW.os x hx) (by intro z; cases z)).symm) (by simp), by
    rcases a.lo_ with q | q
    · rw [q]
      exact n
    · exact ne_of_none e q⟩
theorem Eqv.off {B W : Bk} (h : Eqv B W) {o o' : Ord} (e : strip o = strip o') : Eqv { B with ords := takeOff B.ords o } { W with ords := takeOff W.ords o' } := by
  obtain ⟨e1, _, _, _, e5, _⟩ := strip_eq e
  by_cases c : o.rest = 0
  · have h1 : takeOff B.ords o = dropO B.ords o.num := by
      unfold takeOff
      rw [if_pos c]
    have h2 : takeOff W.ords o' = dropO W.ords o.num := by
      unfold takeOff
      rw [if_pos (e5.symm.trans c), e1]
    rw [h1, h2]
    exact h.drop o.num
  · have h1 : takeOff B.ords o = updO B.ords o := by
      unfold takeOff
      rw [if_neg c]
    have h2 : takeOff W.ords o' = updO W.ords o' := by
      unfold takeOff
      rw [if_neg fun z => c (e5.trans z)]
    rw [h1, h2]
    exact h.upd e
theorem strip_lessen {o o' : Ord} (e : strip o = strip o') (m : Int) : strip (lessen o m) = strip (lessen o' m) := by
  obtain ⟨e1, e2, e3, e4, e5, e6, e7, e8⟩ := strip_eq e
  unfold strip lessen Ord.show Ord.shown
  dsimp only
  rw [e1, e2, e3, e4, e5, e6, e8]
/-- the rows of a book amid a call -/
theorem urow {n : Int} {R1 R2 : List Ord} {u : US} (h : UOk u) (I : UInv n R1 R2 u) (s1 : R1.Pairwise fun a b => leO a b = true) (s2 : R2.Pairwise fun a b => leO a b = true) : row u.B.ords true = u.buys ∧ row u.B.ords false = u.sells :=
  ⟨row_unique (side := true) h.ok.ndn h.bs I.ob h.nb (by rw [I.buys]; exact trim_sorted s1), row_unique (side := false) h.ok.ndn h.ss I.os h.ns (by rw [I.sells]; exact trim_sorted s2)⟩
section
variable {P : Program} {w : World} {K : PySem.W.Frag} {mg : Str → Option Value} {base : Heap}
/-- one order of a call's trade -/
theorem wunc_turn {H : Hp} {wd lo : Addr} {W : Bk} {o : Ord} {m : Int} {σ : L2.St} {Dn : Ends} (hW : WorldAt H wd lo W) (hn : (W.ords.map (·.num)).Nodup) (hlen : W.ords.length ≤ 1000) (ho : o ∈ W.ords) (h0 : σ[0]? = some (some (.ref wd))) (h6 : σ[6]? = some (some (.int m))) (h7 : σ[7]? = some (some (.ref o.ad)))
    (nx : ∀ lo' H', WorldAt H' wd lo' { W with ords := takeOff W.ords (lessen o m) } → WStep [] wd lo W H lo' { W with ords := takeOff W.ords (lessen o m) } H' → Dn.nx σ H') :
    (tSeq (sDPut (tVar 7) (tC (.str "left")) (tOp (rI0 fun i j => .int (i - j)) (tDGet (tVar 7) (tC (.str "left"))) (tVar 6))) (tSeq (tDrop (tCall (spWShow K) [] E0 (tCons (tVar 7) tNil)))
      (tIfS (tTest (tOp rEq (tDGet (tVar 7) (tC (.str "left"))) (tC (.int 0)))) (tDrop (tCall (spGone K) [] E0 (tCons (tVar 0) (tCons (tDGet (tVar 7) (tC (.str "number"))) tNil)))) tNext))) Dn σ H := by
  refine wget h7 (hW.os o ho) (v := .int o.rest) rfl ⟨_, h6, _, _, rfl, rfl, _, h7, o.ad, _, rfl, .inl ⟨_, Sum.inr "left", hW.os o ho, rfl, by show 8 < sizeLine; decide, rfl⟩, ?_⟩
  rw [put_oleft]
  refine ⟨_, h7, { o with rest := o.rest - m }, _, rfl, .inr rfl, upd_same, ?_⟩
  rw [upd_upd]
  obtain ⟨hWc, stC⟩ := ord_heap (o' := lessen o m) hW hn ho rfl rfl
  have hoc : upd H o.ad (.dK (ordD (lessen o m))) o.ad = some (.dK (ordD (lessen o m))) := upd_same
  have fr : ∀ Hc, WorldAt Hc wd lo { W with ords := updO W.ords (lessen o m) } → WStep [] wd lo W H lo { W with ords := updO W.ords (lessen o m) } Hc → Hc o.ad = some (.dK (ordD (lessen o m))) →
      (tIfS (tTest (tOp rEq (tDGet (tVar 7) (tC (.str "left"))) (tC (.int 0)))) (tDrop (tCall (spGone K) [] E0 (tCons (tVar 0) (tCons (tDGet (tVar 7) (tC (.str "number"))) tNil)))) tNext) Dn σ Hc := by
    intro Hc hWc stC hoc
    refine wget h7 hoc (v := .int (lessen o m).rest) rfl ⟨rfl, _, rfl, ?_⟩
    by_cases c : (lessen o m).rest = 0
    · have et : takeOff W.ords (lessen o m) = dropO W.ords o.num := by
        unfold takeOff
        rw [if_pos c]
        rfl
      have ed : dropO (updO W.ords (lessen o m)) o.num = dropO W.ords o.num := dropO_upd rfl
      refine ifY (by rw [c]) ⟨_, h0, wget h7 hoc (v := .int o.num) rfl ⟨wd, lo, _, o.num, rfl, hWc, by show (updO W.ords _).length ≤ 1000; rw [updO_len]; exact hlen, fun lo2 H2 hW2 st2 _ => ?_⟩⟩
      have st3 := stC.trans st2
      dsimp only at hW2 st3
      rw [ed] at hW2 st3
      rw [et] at nx
      exact nx lo2 H2 hW2 st3
    · have et : takeOff W.ords (lessen o m) = updO W.ords (lessen o m) := by
        unfold takeOff
        rw [if_neg c]
      rw [et] at nx
      exact ifN (fun z => c (V.int.inj z)) (nx lo Hc hWc stC)
  exact fr _ hWc stC hoc
def spWUncross (K : PySem.W.Frag) : Sp := fun vs H Q _ => ∃ (wd lo : Addr) (B W : Bk), vs = [.ref wd] ∧ WorldAt H wd lo W ∧ BkOk B ∧ Eqv B W ∧ W.ords.length ≤ 900 ∧ (B.calling = false → Q (.str "now") H) ∧
  (B.calling = true → ∀ lo' W' H' r ys, WorldAt H' wd lo' W' → Eqv (uncrossB B).2 W' → WStep [] wd lo W H lo' W' H' → H' r = some (.lst ys) → Paired (CtAt H') (uncrossB B).1 ys → Q (.ref r) H')
/-- between two turns of the law's uncross -/
structure UW (H0 : Hp) (wd lo0 : Addr) (W0 : Bk) (t0 r : Addr) (p n : Int) (R1 R2 : List Ord) (u0 : US) (H : Hp) (lo : Addr) (W : Bk) (u : US) (cs : List CTr) (ys : List V) : Prop where
  hW : WorldAt H wd lo W
  hE : Eqv u.B W
  ok : UOk u
  inv : UInv n R1 R2 u
  len : W.ords.length ≤ 1000
  st : WStep [] wd lo0 W0 H0 lo W H
  fnd : H t0 = some (.tup [.int p, .int n])
  lst : H r = some (.lst ys)
  rlo : r ≠ lo
  pct : Paired (CtAt H) cs ys
  all : iter (ustep p) n.toNat u0 = (cs ++ (iter (ustep p) (muU u) u).1, (iter (ustep p) (muU u) u).2)
  mu : cs.length + muU u ≤ 10000000
theorem wulenOk {H0 : Hp} {wd lo0 : Addr} {W0 : Bk} {t0 r : Addr} {p n : Int} {R1 R2 : List Ord} {u0 : US} {H : Hp} {lo : Addr} {W : Bk} {u : US} {cs : List CTr} {ys : List V} (M : UW H0 wd lo0 W0 t0 r p n R1 R2 u0 H lo W u cs ys) : ys.length < sizeLine := by
  have h1 := paired_len M.pct
  have h2 := M.mu
  rw [sizeLine_eq]
  omega
theorem scWUncross : FnScope ["_law_world", "_law_found", "_law_told", "_law_rest", "_law_buy", "_law_sell", "_law_many", "_law_one"] ["_law_world"] (defScope s_l_uncross) := ⟨rfl, rfl, rfl, by decide +kernel, rfl, by decide +kernel, by decide +kernel⟩
theorem w_l_uncross (T : Tx K mg) : Fn P w K mg base CX0 5 "_law_uncross" ["_law_world"] (spWUncross K) := by
  refine ⟨ok0 T.f_l_uncross scWUncross (fun _ _ _ _ _ _ us hl => match us, hl with | [_], _ => rfl) (fun vs H Q E h => ?_) (fun cdv A outer s H vs Q E hr h => ?_), T.g_l_uncross, ?_⟩
  · obtain ⟨wd, lo, B, W, rfl, _⟩ := h
    rfl
  · obtain ⟨wd, lo, B, W, rfl, hW, ok, hE, hlen, know, kok⟩ := h
    have hu := hu_of hr
    have GR : Fn P w K mg base CX0 4 "_law_side" ["_law_world", "_law_side_here"] (spWSide K) := w_l_side T
    have GP : Fn P w K mg base CX0 3 "_law_call_price" ["_law_world"] (spWPrice K) := w_l_call_price T
    have GS : Fn P w K mg base CX0 1 "_law_show" ["_law_one"] (spWShow K) := w_l_show T
    have GG : Fn P w K mg base CX0 1 "_law_gone" ["_law_world", "_law_number"] (spGone K) := w_l_gone T
    have hr1 := hr.mono (j := 1) (by decide)
    have hr3 := hr.mono (j := 3) (by decide)
    refine ⟨_, pss_cons (ps_if (pt_not (pt_val (pe_dget hu (pv 0) pe_str (fun _ _ => rfl)))) (pss_one (ps_ret pe_str)) pss_nil)
      (pss_cons (ps_dput hu (pv 0) pe_str pe_bl rfl)
      (pss_cons (ps_set (i := 1) scWUncross.nd rfl (Or.inl rfl) (pe_fn GP hr3 rfl pass0 (pa_cons (pv 0) pa_nil)))
      (pss_cons (ps_set (i := 2) scWUncross.nd rfl (Or.inl rfl) (pe_lst pa_nil))
      (pss_cons (ps_set (i := 3) scWUncross.nd rfl (Or.inl rfl) (pe_ifExp (pt_cmp (pc_isN (pv 1))) pe_int (pe_ix (r := rIx K) ix_seq (pv 1) pe_int (fun _ _ => rfl))))
      (pss_cons (ps_while PassesOwn.never (pt_cmpR op_gt (pv 3) pe_int (nomark _))
        (pss_cons (ps_set (i := 4) scWUncross.nd rfl (Or.inl rfl) (pe_ix (r := rIx K) ix_seq (pe_fn GR hr rfl pass0 (pa_cons (pv 0) (pa_cons pe_str pa_nil))) pe_int (fun _ _ => rfl)))
        (pss_cons (ps_set (i := 5) scWUncross.nd rfl (Or.inl rfl) (pe_ix (r := rIx K) ix_seq (pe_fn GR hr rfl pass0 (pa_cons (pv 0) (pa_cons pe_str pa_nil))) pe_int (fun _ _ => rfl)))
        (pss_cons (ps_set (i := 6) scWUncross.nd rfl (Or.inl rfl) (pe_callB (call_min3 rfl) rfl T.z_min boot_min (pa_cons (pv 3) (pa_cons (pe_dget hu (pv 4) pe_str (fun _ _ => rfl)) (pa_cons (pe_dget hu (pv 5) pe_str (fun _ _ => rfl)) pa_nil)))))
        (pss_cons (ps_set (i := 3) scWUncross.nd rfl (Or.inl rfl) (pe_op op_sub (pv 3) (pv 6)))
        (pss_cons (ps_expr (pe_bm PySem.F.plainAttrs_list PySem.F.slot_list_append PySem.F.type_list_append mt_append (pv 2) (pa_cons (pe_tup (pa_cons pe_str (pa_cons (pe_dget hu (pv 4) pe_str (fun _ _ => rfl)) (pa_cons (pe_dget hu (pv 5) pe_str (fun _ _ => rfl)) (pa_cons (pe_ix (r := rIx K) ix_seq (pv 1) pe_int (fun _ _ => rfl)) (pa_cons (pv 6) pa_nil)))))) pa_nil)))
        (pss_cons (ps_dput hu (pv 0) pe_str (pe_ix (r := rIx K) ix_seq (pv 1) pe_int (fun _ _ => rfl)) rfl)
        (pss_cons (ps_dput hu (pv 0) pe_str (pe_op op_add (pe_dget hu (pv 0) pe_str (fun _ _ => rfl)) (pv 6)) rfl)
        (pss_one (ps_for PassesOwn.never rfl (pi_tup (pe_tup (pa_cons (pv 4) (pa_cons (pv 5) pa_nil)))) (pg_name (i := 7) scWUncross.nd rfl (Or.inl rfl))
          (pss_cons (ps_dput hu (pv 7) pe_str (pe_op op_sub (pe_dget hu (pv 7) pe_str (fun _ _ => rfl)) (pv 6)) rfl)
          (pss_cons (ps_expr (pe_fn GS hr1 rfl pass0 (pa_cons (pv 7) pa_nil)))
          (pss_one (ps_if (pt_cmpR op_eq (pe_dget hu (pv 7) pe_str (fun _ _ => rfl)) pe_int (nomark _)) (pss_one (ps_expr (pe_fn GG hr1 rfl pass0 (pa_cons (pv 0) (pa_cons (pe_dget hu (pv 7) pe_str (fun _ _ => rfl)) pa_nil))))) pss_nil))))))))))))))
      (pss_one (ps_ret (pv 2)))))))), ?_⟩
    refine wget rfl hW.dc (v := .bl W.calling) rfl ⟨_, rfl, ?_⟩
    cases hc : W.calling with
    | false => exact iteT (know (by rw [← hE.calling]; exact hc))
    | true =>
      have hcB : B.calling = true := by rw [← hE.calling]; exact hc
      have kok := kok hcB
      refine iteF ⟨_, rfl, wd, _, rfl, .inl ⟨_, Sum.inr "calling", hW.dc, rfl, by show 6 < sizeLine; decide, rfl⟩, ?_⟩
      rw [put_calling]
      obtain ⟨hW1, st1⟩ := fld_heap (W' := { W with calling := false }) hW rfl
      generalize upd H wd _ = H1 at *
      have hE1 : Eqv { B with calling := false } { W with calling := false } := ⟨hE.os, hE.many, hE.places, hE.last, hE.traded, rfl⟩
      have ok1 := calling_ok ok false
      have okW1 := hE1.ok ok1
      refine ⟨_, rfl, wd, lo, _, rfl, hW1, okW1, by show W.ords.length ≤ 1000; omega, fun H2 v s2 hv => ?_⟩
      have hv : PairAt H2 (callPrice B.ords B.last) v := by
        have e := callPrice_same hE1 ok1
        rw [e] at hv
        exact hv
      refine ⟨by show 0 ≤ sizeLine; decide, fun r hr0 => ?_⟩
      have s3 := same_new (o := .lst []) hr0
      have hW3 := (hW1.same s2).same s3
      have st3 := (st1.trans (WStep.of s2)).trans (WStep.of s3)
      have hr3 : upd H2 r (.lst []) r = some (.lst []) := upd_same
      have hrH : H r = none := st1.dom _ (same_free s2 hr0)
      have rlo : r ≠ lo := (ne_of_none (hW1.same s2).ls hr0).symm
      unfold uncrossB at kok
      cases ec : callPrice B.ords B.last with
      | none =>
        rw [ec] at hv kok
        have hv : v = .non := hv
        subst hv
        refine ⟨_, rfl, _, rfl, iteT ?_⟩
        generalize upd H2 r _ = H3 at *
        refine ⟨fun k σ H' => k = 0 ∧ σ = [some (.ref wd), some .non, some (.ref r), some (.int 0), none, none, none, none] ∧ H' = H3, ⟨0, rfl, rfl, rfl⟩, ?_⟩
        rintro k σ H' ⟨rfl, rfl, rfl⟩
        exact ⟨_, rfl, _, _, rfl, rfl, _, rfl, iteF ⟨_, rfl, kok lo _ _ r [] hW3 hE1 st3 hr3 .nil⟩⟩
      | some z =>
        obtain ⟨p, n⟩ := z
        rw [ec] at hv kok
        obtain ⟨t0, rfl, ht0⟩ := hv
        have ht3 := s3 _ _ ht0
        refine ⟨_, rfl, _, rfl, iteF (dix rfl ht3 (v := .int n) rfl ?_)⟩
        generalize upd H2 r _ = H3 at *
        have US0 := ustart_ok ok ec
        have sR1 := row_sorted B.ords true
        have sR2 := row_sorted B.ords false
        have r1 : ∀ side, ∀ x ∈ row B.ords side, 1 ≤ x.rest := fun side x hx => (ok.os x (row_mem.mp hx).1).rest
        have M0 : UW H wd lo W t0 r p n (row B.ords true) (row B.ords false) { left := n, buys := row B.ords true, sells := row B.ords false, B := { B with calling := false } } H3 lo { W with calling := false } { left := n, buys := row B.ords true, sells := row B.ords false, B := { B with calling := false } } [] [] :=
          ⟨hW3, hE1, US0, ⟨Int.le_refl n, by rw [trim_zero (by show n - n ≤ 0; omega)], by rw [trim_zero (by show n - n ≤ 0; omega)], fun o ho hb => row_mem.mpr ⟨ho, hb⟩, fun o ho hb => row_mem.mpr ⟨ho, hb⟩⟩, by show W.ords.length ≤ 1000; omega, st3, ht3, hr3, rlo, .nil, rfl, by
            have kb := callPrice_bound (fun o ho => by have := (ok.os o ho).rest; omega) ec
            have kr := restSum_le (os := row B.ords true) fun o ho => (ok.os o (row_mem.mp ho).1).rmax
            have kl := row_len B.ords true
            have kw := hE.len
            show 0 + n.toNat ≤ 10000000
            omega⟩
        refine ⟨fun k σ H' => ∃ lo6 W6 u cs ys v4 v5 v6 v7, σ = [some (.ref wd), some (.ref t0), some (.ref r), some (.int u.left), v4, v5, v6, v7] ∧ UW H wd lo W t0 r p n (row B.ords true) (row B.ords false) { left := n, buys := row B.ords true, sells := row B.ords false, B := { B with calling := false } } H' lo6 W6 u cs ys ∧ k = muU u,
          ⟨_, lo, _, _, [], [], none, none, none, none, rfl, M0, rfl⟩, ?_⟩
        rintro k σ H6 ⟨lo6, W6, u, cs, ys, v4, v5, v6, v7, rfl, M, rfl⟩
        refine ⟨_, rfl, _, _, rfl, rfl, _, rfl, ?_⟩
        by_cases h0 : (0 : Int) < u.left
        · rw [decide_eq_true h0]
          refine iteT ⟨_, fun _ _ h => h, ?_⟩
          obtain ⟨b, bs, sl, ss, eb, es⟩ := M.ok.heads h0
          obtain ⟨rt, rf⟩ := urow M.ok M.inv sR1 sR2
          obtain ⟨b', l1, er1, es1⟩ := M.hE.heads M.ok.ok (rt.trans eb)
          obtain ⟨s', l2, er2, es2⟩ := M.hE.heads M.ok.ok (rf.trans es)
          have okW := M.hE.ok M.ok.ok
          obtain ⟨x1, _, _, _, x5, _⟩ := strip_eq es1
          obtain ⟨y1, _, _, _, y5, _⟩ := strip_eq es2
          have hb' := row_mem.mp (show b' ∈ row W6.ords true by rw [er1]; exact List.mem_cons_self)
          have hs' := row_mem.mp (show s' ∈ row W6.ords false by rw [er2]; exact List.mem_cons_self)
          have nbs : b'.num ≠ s'.num := fun z => by
            have := nodup_inj okW.ndn hb'.1 hs'.1 z
            rw [this, hs'.2] at hb'
            exact absurd hb'.2 (by decide)
          have ml := least3_le u.left b'.rest s'.rest
          have mo := least3_or u.left b'.rest s'.rest
          have mb := (okW.os b' hb'.1).rest
          have ms := (okW.os s' hs'.1).rest
          have hst := ustep_some (p := p) h0 eb es
          have sk := ustep_ok M.ok hst
          have iv := uinv_step (r1 true) (r1 false) M.ok M.inv hst
          have ua := uiter_step M.ok hst
          obtain ⟨m, hm⟩ : ∃ m, m = least3 u.left b'.rest s'.rest := ⟨_, rfl⟩
          rw [x5, y5, ← hm] at hst sk iv ua
          rw [← hm] at ml mo
          refine ⟨_, rfl, wd, lo6, W6, true, rfl, M.hW, okW, M.len, fun H7 q7 s7 _ e7 => ?_⟩
          rw [er1] at e7
          refine .inl ⟨q7, _, _, _, rfl, rfl, .inl (.inl e7), atI_nat (j := 0) rfl, ?_⟩
          have hW7 := M.hW.same s7
          refine ⟨_, rfl, wd, lo6, W6, false, rfl, hW7, okW, M.len, fun H8 q8 s8 _ e8 => ?_⟩
          rw [er2] at e8
          refine .inl ⟨q8, _, _, _, rfl, rfl, .inl (.inl e8), atI_nat (j := 0) rfl, ?_⟩
          have hW8 := hW7.same s8
          have hr8 := s8 _ _ (s7 _ _ M.lst)
          have ht8 := s8 _ _ (s7 _ _ M.fnd)
          refine ⟨_, rfl, wget rfl (hW8.os b' hb'.1) (v := .int b'.rest) rfl (wget rfl (hW8.os s' hs'.1) (v := .int s'.rest) rfl ⟨_, _, _, rfl, ?_⟩)⟩
          rw [← hm]
          refine ⟨_, rfl, _, rfl, _, _, rfl, rfl, ?_⟩
          refine ⟨_, rfl, .inl ⟨rfl, _, SqL.of hr8⟩, wget rfl (hW8.os b' hb'.1) (v := .int b'.num) rfl (wget rfl (hW8.os s' hs'.1) (v := .int s'.num) rfl (dix rfl ht8 (v := .int p) rfl ⟨_, rfl, by show 5 ≤ sizeLine; decide, fun t ht => ⟨r, ys, .ref t, rfl, rfl, same_new ht _ _ hr8, wulenOk M, ?_⟩⟩))⟩
          have sm := same_new (o := .tup [V.str "trade", V.int b'.num, V.int s'.num, V.int p, V.int m]) ht
          have hr9 := sm _ _ hr8
          have hW9 := (hW8.same sm).lst (ys := ys ++ [.ref t]) hr9 M.rlo
          have et9 : upd (upd H8 t (.tup [V.str "trade", V.int b'.num, V.int s'.num, V.int p, V.int m])) r (.lst (ys ++ [.ref t])) t = some (.tup (ctV ⟨b.num, sl.num, p, m⟩)) := TupKeep.lst hr9 _ _ (by rw [upd_same, x1, y1]; rfl)
          have tk9 : TupKeep H6 (upd (upd H8 t (.tup [V.str "trade", V.int b'.num, V.int s'.num, V.int p, V.int m])) r (.lst (ys ++ [.ref t]))) := ((TupKeep.of ((s7.trans s8).trans sm)).trans (TupKeep.lst hr9))
          have st9 := (M.st.trans (WStep.of ((s7.trans s8).trans sm))).off (o := .lst (ys ++ [.ref t])) hrH
          have hl9 : upd (upd H8 t (.tup [V.str "trade", V.int b'.num, V.int s'.num, V.int p, V.int m])) r (.lst (ys ++ [.ref t])) r = some (.lst (ys ++ [.ref t])) := upd_same
          have ft9 : upd (upd H8 t (.tup [V.str "trade", V.int b'.num, V.int s'.num, V.int p, V.int m])) r (.lst (ys ++ [.ref t])) t0 = some (.tup [.int p, .int n]) := tk9 _ _ M.fnd
          generalize upd (upd H8 t (.tup [V.str "trade", V.int b'.num, V.int s'.num, V.int p, V.int m])) r (.lst (ys ++ [.ref t])) = H9 at *
          refine dix rfl ft9 (v := .int p) rfl ⟨_, rfl, wd, _, rfl, .inl ⟨_, Sum.inr "last", hW9.dc, rfl, by show 6 < sizeLine; decide, rfl⟩, ?_⟩
          rw [put_last]
          obtain ⟨hWa, stA⟩ := fld_heap (W' := { W6 with last := some p }) hW9 rfl
          generalize upd H9 wd _ = Ha at *
          refine wget rfl hWa.dc (v := .int W6.traded) rfl ⟨_, rfl, _, _, rfl, rfl, _, rfl, wd, _, rfl, .inl ⟨_, Sum.inr "volume", hWa.dc, rfl, by show 6 < sizeLine; decide, rfl⟩, ?_⟩
          rw [put_volume]
          obtain ⟨hWb, stB⟩ := fld_heap (W' := { W6 with last := some p, traded := W6.traded + m }) hWa rfl
          generalize upd Ha wd _ = Hb at *
          refine ⟨_, rfl, _, rfl, by show 2 ≤ sizeLine; decide, fun tq htq => ⟨tq, rfl, ⟨_, SqT.of upd_same⟩, ?_⟩⟩
          have sq := same_new (o := .tup [V.ref b'.ad, V.ref s'.ad]) htq
          have hWq := hWb.same sq
          have hqq : upd Hb tq (.tup [V.ref b'.ad, V.ref s'.ad]) tq = some (.tup [V.ref b'.ad, V.ref s'.ad]) := upd_same
          have stq := (stA.trans stB).trans (WStep.of sq)
          generalize upd Hb tq _ = Hq at *
          have ndq : (W6.ords.map (·.num)).Nodup := okW.ndn
          refine for_tup (K := K) (a := tq) (xs := [V.ref b'.ad, V.ref s'.ad]) (fun j σ H' => ∃ v7, σ = [some (.ref wd), some (.ref t0), some (.ref r), some (.int (u.left - m)), some (.ref b'.ad), some (.ref s'.ad), some (.int m), v7] ∧
              ((j = 0 ∧ H' = Hq) ∨ (j = 1 ∧ ∃ lo7, WorldAt H' wd lo7 { W6 with last := some p, traded := W6.traded + m, ords := takeOff W6.ords (lessen b' m) } ∧ WStep [] wd lo6 { W6 with last := some p, traded := W6.traded + m } Hq lo7 { W6 with last := some p, traded := W6.traded + m, ords := takeOff W6.ords (lessen b' m) } H') ∨
               (j = 2 ∧ ∃ lo7, WorldAt H' wd lo7 { W6 with last := some p, traded := W6.traded + m, ords := takeOff (takeOff W6.ords (lessen b' m)) (lessen s' m) } ∧ WStep [] wd lo6 { W6 with last := some p, traded := W6.traded + m } Hq lo7 { W6 with last := some p, traded := W6.traded + m, ords := takeOff (takeOff W6.ords (lessen b' m)) (lessen s' m) } H')))
            ⟨_, rfl, .inl ⟨rfl, rfl⟩⟩ (fun j σ H' _ h => ?_) ?_ ?_
          · obtain ⟨_, _, ⟨_, e⟩ | ⟨_, lo7, _, e⟩ | ⟨_, lo7, _, e⟩⟩ := h
            · rw [e]
              exact SqT.of hqq
            · exact SqT.of (e.tup0 hWq _ _ hqq)
            · exact SqT.of (e.tup0 hWq _ _ hqq)
          · rintro j y σ H' hj ⟨v7, rfl, ⟨rfl, rfl⟩ | ⟨rfl, lo7, hW', st'⟩ | ⟨rfl, lo7, hW', st'⟩⟩
            · cases hj
              exact wunc_turn (o := b') (m := m) hWq ndq M.len hb'.1 rfl rfl rfl fun lo7 H7 hW7 st7 => ⟨_, rfl, .inr (.inl ⟨rfl, lo7, hW7, st7⟩)⟩
            · cases hj
              refine wunc_turn (o := s') (m := m) hW' ?_ (Nat.le_trans take_len M.len) (take_other hs'.1 (Ne.symm nbs)) rfl rfl rfl fun lo8 H8 hW8 st8 => ⟨_, rfl, .inr (.inr ⟨rfl, lo8, hW8, st'.trans st8⟩)⟩
              have e := (((M.hE.off (strip_lessen es1 m)).ok ?_)).ndn
              · exact e
              · exact (take_ok M.ok.ok (m := m) (row_mem.mp (show b ∈ row u.B.ords true by rw [rt, eb]; exact List.mem_cons_self)).1 (by omega) (by omega)).1
            · cases hj
          rintro σ H' ⟨v7, rfl, ⟨e, _⟩ | ⟨e, _⟩ | ⟨_, lo7, hW', st'⟩⟩
          · cases e
          · cases e
          have st := stq.trans st'
          have tk := st.tup0 hW9
          have ll := st.lst0 hW9 hl9 M.rlo
          have hE' : Eqv { u.B with last := some p, traded := u.B.traded + m, ords := takeOff (takeOff u.B.ords (lessen b m)) (lessen sl m) } { W6 with last := some p, traded := W6.traded + m, ords := takeOff (takeOff W6.ords (lessen b' m)) (lessen s' m) } := by
            have e := ((show Eqv { u.B with last := some p, traded := u.B.traded + m } { W6 with last := some p, traded := W6.traded + m } from ⟨M.hE.os, M.hE.many, M.hE.places, rfl, by show W6.traded + m = u.B.traded + m; rw [M.hE.traded], M.hE.calling⟩).off (strip_lessen es1 m)).off (strip_lessen es2 m)
            exact e
          refine ⟨_, sk.mu, lo7, _, _, cs ++ [⟨b.num, sl.num, p, m⟩], ys ++ [.ref t], _, _, _, _, rfl, ⟨hW', hE', sk.ok, iv, ?_, st9.trans st, tk _ _ ft9, ll.1, ll.2, paired_snoc (cts_keep M.pct (tk9.trans tk)) ⟨t, rfl, tk _ _ et9⟩, ?_, ?_⟩, rfl⟩
          · exact Nat.le_trans take_len (Nat.le_trans take_len M.len)
          · rw [M.all, ua, List.append_assoc]
            rfl
          · have q := sk.mu
            have := M.mu
            rw [List.length_append]
            show cs.length + 1 + _ ≤ _
            omega
        · rw [decide_eq_false h0]
          have e2 := M.all
          have un := ustep_none (p := p) h0
          rw [iter_none un, List.append_nil] at e2
          refine iteF ⟨_, rfl, kok lo6 W6 H6 r ys M.hW ?_ M.st M.lst ?_⟩
          · dsimp only
            rw [e2]
            exact M.hE
          · dsimp only
            rw [e2]
            exact M.pct
  · obtain ⟨fd, F⟩ := T.f_l_uncross
    exact F.kp
end
end FB

set_option maxRecDepth 100000
set_option maxHeartbeats 4000000
set_option pp.maxSteps 400
/-! The law's own book: a deed done; is, same. -/
namespace FB
open PySem PySem.Spec PyProof.Rows L2
section
variable {P : Program} {w : World} {K : PySem.W.Frag} {mg : Str → Option Value} {base : Heap}
def spWDone (K : PySem.W.Frag) : Sp := fun vs H Q _ => ∃ (wd lo t : Addr) (B W B' : Bk) (dd : Deed) (xs : List V) (a : Ans), vs = [.ref wd, .ref t] ∧ WorldAt H wd lo W ∧ BkOk B ∧ Eqv B W ∧ W.ords.length ≤ 900 ∧ H t = some (.tup xs) ∧ dd.At xs ∧ Did B dd a B' ∧
  ∀ lo' W' H' v, WorldAt H' wd lo' W' → Eqv B' W' → WStep [] wd lo W H lo' W' H' → a.At H' v → Q v H'
theorem scWDone : FnScope ["_law_world", "_law_deed_here"] ["_law_world", "_law_deed_here"] (defScope s_l_done) := ⟨rfl, rfl, rfl, by decide +kernel, rfl, by decide +kernel, by decide +kernel⟩
theorem w_l_done (T : Tx K mg) : Fn P w K mg base CX0 6 "_law_done" ["_law_world", "_law_deed_here"] (spWDone K) := by
  refine ⟨ok0 T.f_l_done scWDone (fun _ _ _ _ _ _ us hl => match us, hl with | [_, _], _ => rfl) (fun vs H Q E h => ?_) (fun cdv A outer s H vs Q E hr h => ?_), T.g_l_done, ?_⟩
  · obtain ⟨wd, lo, t, B, W, B', dd, xs, a, rfl, _⟩ := h
    rfl
  · obtain ⟨wd, lo, t, B, W, B', dd, xs, a, rfl, hW, ok, hE, hlen, ht, hd, di, k⟩ := h
    have G1 : Fn P w K mg base CX0 5 "_law_place" ["_law_world", "_law_owner", "_law_side_here", "_law_price_here", "_law_many", "_law_shows", "_law_way"] (spWPlace K) := w_l_place T
    have G2 : Fn P w K mg base CX0 2 "_law_cancel" ["_law_world", "_law_number"] (spWCancel K) := w_l_cancel T
    have G3 : Fn P w K mg base CX0 3 "_law_change" ["_law_world", "_law_number", "_law_many"] (spWChange K) := w_l_change T
    have G4 : Fn P w K mg base CX0 1 "_law_call" ["_law_world"] (spWCall K) := w_l_call T
    have G5 : Fn P w K mg base CX0 5 "_law_uncross" ["_law_world"] (spWUncross K) := w_l_uncross T
    have hr2 := hr.mono (j := 2) (by decide)
    have hr3 := hr.mono (j := 3) (by decide)
    have hr1 := hr.mono (j := 1) (by decide)
    refine ⟨_, pss_cons (ps_if (pt_cmpR op_eq (pe_ix (r := rIx K) ix_seq (pv 1) pe_int (fun _ _ => rfl)) pe_str (nomark _))
        (pss_one (ps_ret (pe_fn G1 hr rfl pass0 (pa_cons (pv 0) (pa_cons (pe_ix (r := rIx K) ix_seq (pv 1) pe_int (fun _ _ => rfl)) (pa_cons (pe_ix (r := rIx K) ix_seq (pv 1) pe_int (fun _ _ => rfl)) (pa_cons (pe_ix (r := rIx K) ix_seq (pv 1) pe_int (fun _ _ => rfl)) (pa_cons (pe_ix (r := rIx K) ix_seq (pv 1) pe_int (fun _ _ => rfl))
            (pa_cons (pe_ix (r := rIx K) ix_seq (pv 1) pe_int (fun _ _ => rfl)) (pa_cons (pe_ix (r := rIx K) ix_seq (pv 1) pe_int (fun _ _ => rfl)) pa_nil)))))))))) pss_nil)
      (pss_cons (ps_if (pt_cmpR op_eq (pe_ix (r := rIx K) ix_seq (pv 1) pe_int (fun _ _ => rfl)) pe_str (nomark _))
        (pss_one (ps_ret (pe_fn G2 hr2 rfl pass0 (pa_cons (pv 0) (pa_cons (pe_ix (r := rIx K) ix_seq (pv 1) pe_int (fun _ _ => rfl)) pa_nil))))) pss_nil)
      (pss_cons (ps_if (pt_cmpR op_eq (pe_ix (r := rIx K) ix_seq (pv 1) pe_int (fun _ _ => rfl)) pe_str (nomark _))
        (pss_one (ps_ret (pe_fn G3 hr3 rfl pass0 (pa_cons (pv 0) (pa_cons (pe_ix (r := rIx K) ix_seq (pv 1) pe_int (fun _ _ => rfl)) (pa_cons (pe_ix (r := rIx K) ix_seq (pv 1) pe_int (fun _ _ => rfl)) pa_nil)))))) pss_nil)
      (pss_cons (ps_if (pt_cmpR op_eq (pe_ix (r := rIx K) ix_seq (pv 1) pe_int (fun _ _ => rfl)) pe_str (nomark _))
        (pss_one (ps_ret (pe_fn G4 hr1 rfl pass0 (pa_cons (pv 0) pa_nil)))) pss_nil)
      (pss_one (ps_ret (pe_fn G5 hr rfl pass0 (pa_cons (pv 0) pa_nil))))))), ?_⟩
    cases dd with
    | place o by_ p m s y =>
      have hd : xs = [.str "place", .int o, .str (sideStr by_), optV p, .int m, optV s, .str y.str] := hd
      subst hd
      refine dix rfl ht rfl ⟨rfl, _, rfl, ifY rfl ?_⟩
      refine ⟨_, rfl, dix rfl ht rfl (dix rfl ht rfl (dix rfl ht rfl (dix rfl ht rfl (dix rfl ht rfl (dix rfl ht rfl ?_)))))⟩
      rcases di with ⟨g, rfl, rfl⟩ | ⟨g, hc, hy, rfl, rfl⟩ | ⟨g, hc, ad, rfl, rfl⟩
      · have gp : ∀ {q : Prop}, Parts p m s y → q := fun {q} z => by
          rw [goodO_parts.mpr z] at g
          cases g
        exact ⟨wd, lo, 0, B', W, o, by_, p, m, s, y, rfl, hW, ok, hE, hlen, fun _ H1 s1 => k lo W H1 _ (hW.same s1) hE (WStep.of s1) rfl, fun z _ _ => gp z, fun z _ => gp z⟩
      · refine ⟨wd, lo, 0, B', W, o, by_, p, m, s, y, rfl, hW, ok, hE, hlen, fun z => ?_, fun _ _ _ H1 s1 => k lo W H1 _ (hW.same s1) hE (WStep.of s1) rfl, fun _ z => absurd (z hc) hy⟩
        rw [goodO_parts.mpr g] at z
        cases z
      · refine ⟨wd, lo, ad, B, W, o, by_, p, m, s, y, rfl, hW, ok, hE, hlen, fun z => ?_, fun _ z1 z2 => absurd (hc z1) z2, fun _ _ lo1 W1 H1 t1 r1 ys1 hW1 hE1 st1 h1 h2 h3 => k lo1 W1 H1 _ hW1 hE1 st1 ⟨t1, r1, ys1, rfl, h1, h2, h3⟩⟩
        rw [goodO_parts.mpr g] at z
        cases z
    | cancel n =>
      obtain ⟨m, hd⟩ := (show ∃ m, xs = [.str "cancel", .int n, .int m] from hd)
      subst hd
      refine dix rfl ht rfl ⟨rfl, _, rfl, ifN (by intro z; cases z) ?_⟩
      refine dix rfl ht rfl ⟨rfl, _, rfl, ifY rfl ?_⟩
      refine ⟨_, rfl, dix rfl ht rfl ⟨wd, lo, B, W, n, rfl, hW, ok, hE, Nat.le_trans hlen (by decide), fun o e lo1 W1 H1 hW1 hE1 st1 => ?_, fun e H1 s1 => ?_⟩⟩
      · rcases di with ⟨o', e', rfl, rfl⟩ | ⟨e', _, _⟩
        · rw [e] at e'
          cases e'
          exact k lo1 W1 H1 _ hW1 hE1 st1 rfl
        · rw [e] at e'
          cases e'
      · rcases di with ⟨o', e', rfl, rfl⟩ | ⟨e', rfl, rfl⟩
        · rw [e] at e'
          cases e'
        · exact k lo W H1 _ (hW.same s1) hE (WStep.of s1) rfl
    | change n m =>
      have hd : xs = [.str "change", .int n, .int m] := hd
      subst hd
      refine dix rfl ht rfl ⟨rfl, _, rfl, ifN (by intro z; cases z) ?_⟩
      refine dix rfl ht rfl ⟨rfl, _, rfl, ifN (by intro z; cases z) ?_⟩
      refine dix rfl ht rfl ⟨rfl, _, rfl, ifY rfl ?_⟩
      refine ⟨_, rfl, dix rfl ht rfl (dix rfl ht rfl ⟨wd, lo, B, W, n, m, rfl, hW, ok, hE, Nat.le_trans hlen (by decide), fun o e c lo1 W1 H1 hW1 hE1 st1 => ?_, fun o e c H1 s1 => ?_, fun e H1 s1 => ?_⟩)⟩
      · rcases di with ⟨o', e', c', rfl, rfl⟩ | ⟨o', e', c', _, _⟩ | ⟨e', _, _⟩
        · rw [e] at e'
          cases e'
          exact k lo1 W1 H1 _ hW1 hE1 st1 rfl
        · rw [c] at c'
          cases c'
        · rw [e] at e'
          cases e'
      · rcases di with ⟨o', e', c', rfl, rfl⟩ | ⟨o', e', c', rfl, rfl⟩ | ⟨e', _, _⟩
        · rw [c] at c'
          cases c'
        · exact k lo W H1 _ (hW.same s1) hE (WStep.of s1) rfl
        · rw [e] at e'
          cases e'
      · rcases di with ⟨o', e', c', rfl, rfl⟩ | ⟨o', e', c', rfl, rfl⟩ | ⟨e', rfl, rfl⟩
        · rw [e] at e'
          cases e'
        · rw [e] at e'
          cases e'
        · exact k lo W H1 _ (hW.same s1) hE (WStep.of s1) rfl
    | call =>
      obtain ⟨l, hd⟩ := (show ∃ l, xs = .str "call" :: l from hd)
      subst hd
      have a0 : atI (V.str "call" :: l) 0 = some (.str "call") := atI_nat (j := 0) rfl
      refine dix rfl ht a0 ⟨rfl, _, rfl, ifN (by intro z; cases z) ?_⟩
      refine dix rfl ht a0 ⟨rfl, _, rfl, ifN (by intro z; cases z) ?_⟩
      refine dix rfl ht a0 ⟨rfl, _, rfl, ifN (by intro z; cases z) ?_⟩
      refine dix rfl ht a0 ⟨rfl, _, rfl, ifY rfl ?_⟩
      refine ⟨_, rfl, wd, lo, W, rfl, hW, fun c => ?_, fun c H1 hW1 st1 => ?_⟩
      · rcases di with ⟨c', _, _⟩ | ⟨c', rfl, rfl⟩
        · rw [← hE.calling, c] at c'
          cases c'
        · exact k lo W H _ hW hE (WStep.of (L2.Same.refl _)) rfl
      · rcases di with ⟨c', rfl, rfl⟩ | ⟨c', rfl, rfl⟩
        · exact k lo _ H1 _ hW1 ⟨hE.os, hE.many, hE.places, hE.last, hE.traded, rfl⟩ st1 rfl
        · rw [← hE.calling, c] at c'
          cases c'
    | uncross =>
      obtain ⟨l, hd⟩ := (show ∃ l, xs = .str "uncross" :: l from hd)
      subst hd
      have a0 : atI (V.str "uncross" :: l) 0 = some (.str "uncross") := atI_nat (j := 0) rfl
      refine dix rfl ht a0 ⟨rfl, _, rfl, ifN (by intro z; cases z) ?_⟩
      refine dix rfl ht a0 ⟨rfl, _, rfl, ifN (by intro z; cases z) ?_⟩
      refine dix rfl ht a0 ⟨rfl, _, rfl, ifN (by intro z; cases z) ?_⟩
      refine dix rfl ht a0 ⟨rfl, _, rfl, ifN (by intro z; cases z) ?_⟩
      refine ⟨_, rfl, wd, lo, B, W, rfl, hW, ok, hE, hlen, fun c => ?_, fun c lo1 W1 H1 r ys hW1 hE1 st1 hr1 pe => ?_⟩
      · rcases di with ⟨c', rfl, rfl⟩ | ⟨c', rfl, rfl⟩
        · rw [c] at c'
          cases c'
        · exact k lo W H _ hW hE (WStep.of (L2.Same.refl _)) rfl
      · rcases di with ⟨c', rfl, rfl⟩ | ⟨c', rfl, rfl⟩
        · exact k lo1 W1 H1 _ hW1 hE1 st1 ⟨r, ys, rfl, hr1, pe⟩
        · rw [c] at c'
          cases c'
  · obtain ⟨fd, F⟩ := T.f_l_done
    exact F.kp
/-- two values alike in kind and in what they hold -/
structure Alike (K : PySem.W.Frag) (H : Hp) (v u : V) (d : PyData) (t : String) : Prop where
  t1 : TyX K H v (.type t)
  t2 : TyX K H u (.type t)
  d1 : Dp K H v d
  d2 : Dp K H u d
  sh : SeqAt.shaped d = true
  kb : ∃ b, kitB t "bool" = some b
  kt : ∃ b, kitB t "tuple" = some b
def spWIs (K : PySem.W.Frag) : Sp := fun vs H Q _ => ∃ (v u : V) (d : PyData) (t : String), vs = [v, u] ∧ Alike K H v u d t ∧ Q (.bl true) H
theorem scWIs : FnScope ["_law_found", "_law_due"] ["_law_found", "_law_due"] (defScope s_l_is) := ⟨rfl, rfl, rfl, by decide +kernel, rfl, by decide +kernel, by decide +kernel⟩
theorem w_l_is (T : Tx K mg) : Fn P w K mg base CX0 1 "_law_is" ["_law_found", "_law_due"] (spWIs K) := by
  refine ⟨ok0 T.f_l_is scWIs (fun _ _ _ _ _ _ us hl => match us, hl with | [_, _], _ => rfl) (fun vs H Q E h => ?_) (fun cdv A outer s H vs Q E hr h => ?_), T.g_l_is, ?_⟩
  · obtain ⟨v, u, d, t, rfl, _⟩ := h
    rfl
  · obtain ⟨v, u, d, t, rfl, al, k⟩ := h
    have hu64 : A.units + 3 + 64 < cLine := by
      have := hr.un
      have e : (A.deeper (envOfC "_law_is" (defScope s_l_is) s.heap.objs.size (He.ga K "_law_is") cdv)).units = A.units + 3 := rfl
      omega
    obtain ⟨b1, e1⟩ := al.kb
    obtain ⟨b2, e2⟩ := al.kt
    refine ⟨_, pss_cons (ps_if (PW.pt (pw_or (pt_cmpR op_ne (pe_callB call_isi rfl T.z_isinstance PyProof.Rows.boot_isinstance (pa_cons (pv 0) (pa_cons (pe_bltn (v := .ty "bool") (u := .type "bool") rfl T.z_bool (by decide +kernel) rfl) pa_nil)))
          (pe_callB call_isi rfl T.z_isinstance PyProof.Rows.boot_isinstance (pa_cons (pv 1) (pa_cons (pe_bltn (v := .ty "bool") (u := .type "bool") rfl T.z_bool (by decide +kernel) rfl) pa_nil))) (nomark _))
        (pw_or1 (pt_cmpR op_ne (pe_callB call_isi rfl T.z_isinstance PyProof.Rows.boot_isinstance (pa_cons (pv 0) (pa_cons (pe_bltn (v := .ty "tuple") (u := .type "tuple") rfl T.z_tuple (by decide +kernel) rfl) pa_nil)))
          (pe_callB call_isi rfl T.z_isinstance PyProof.Rows.boot_isinstance (pa_cons (pv 1) (pa_cons (pe_bltn (v := .ty "tuple") (u := .type "tuple") rfl T.z_tuple (by decide +kernel) rfl) pa_nil))) (nomark _))))) (pss_one (ps_ret pe_bl)) pss_nil)
      (pss_one (ps_ret (pe_cmpR (op_eqD hu64) (pv 0) (pv 1) (nomark _)))), ?_⟩
    refine ⟨_, rfl, v, .ty "bool", .type t, .type "bool", b1, rfl, .ty _, al.t1, kit_ty e1, _, rfl, u, .ty "bool", .type t, .type "bool", b1, rfl, .ty _, al.t2, kit_ty e1, rfl, _, rfl, ?_⟩
    rw [decide_eq_true rfl]
    refine iteF ⟨_, rfl, v, .ty "tuple", .type t, .type "tuple", b2, rfl, .ty _, al.t1, kit_ty e2, _, rfl, u, .ty "tuple", .type t, .type "tuple", b2, rfl, .ty _, al.t2, kit_ty e2, rfl, _, rfl, ?_⟩
    rw [decide_eq_true rfl]
    refine iteF ⟨_, rfl, _, rfl, d, d, al.d1, al.d2, al.sh, al.sh, ?_⟩
    rw [eqv_same al.sh]
    exact k
  · obtain ⟨fd, F⟩ := T.f_l_is
    exact F.kp
theorem Alike.int {H : Hp} (i : Int) : Alike K H (.int i) (.int i) (.int i) "int" := ⟨.base (.int i), .base (.int i), .int i, .int i, rfl, ⟨false, by decide +kernel⟩, ⟨false, by decide +kernel⟩⟩
theorem Alike.bl {H : Hp} (b : Bool) : Alike K H (.bl b) (.bl b) (.bool b) "bool" := ⟨.base (.bl b), .base (.bl b), .bl b, .bl b, rfl, ⟨true, by decide +kernel⟩, ⟨false, by decide +kernel⟩⟩
theorem Alike.opt {H : Hp} (o : Option Int) : ∃ d t, Alike K H (optV o) (optV o) d t := by
  cases o with
  | none => exact ⟨_, "NoneType", .base .non, .base .non, .non, .non, rfl, ⟨false, by decide +kernel⟩, ⟨false, by decide +kernel⟩⟩
  | some i => exact ⟨_, _, Alike.int i⟩
theorem Alike.ans {H : Hp} {a : Ans} {v u : V} (h1 : a.At H v) (h2 : a.At H u) : ∃ t, Alike K H v u a.data t := by
  have d1 := ans_dp (K := K) h1
  have d2 := ans_dp (K := K) h2
  cases a with
  | placed n es =>
    obtain ⟨t, r, ys, rfl, ht, hr, p⟩ := h1
    obtain ⟨t', r', ys', rfl, ht', hr', p'⟩ := h2
    exact ⟨"tuple", .base (.tup ht), .base (.tup ht'), d1, d2, ans_shaped _, ⟨false, by decide +kernel⟩, ⟨true, by decide +kernel⟩⟩
  | trades cs =>
    obtain ⟨r, ys, rfl, hr, p⟩ := h1
    obtain ⟨r', ys', rfl, hr', p'⟩ := h2
    exact ⟨"list", .base (.lst hr), .base (.lst hr'), d1, d2, ans_shaped _, ⟨false, by decide +kernel⟩, ⟨false, by decide +kernel⟩⟩
  | left n =>
    cases (show v = .int n from h1)
    cases (show u = .int n from h2)
    exact ⟨_, Alike.int n⟩
  | done =>
    cases (show v = .non from h1)
    cases (show u = .non from h2)
    exact ⟨"NoneType", .base .non, .base .non, .non, .non, rfl, ⟨false, by decide +kernel⟩, ⟨false, by decide +kernel⟩⟩
  | bad =>
    cases (show v = .str "bad" from h1)
    cases (show u = .str "bad" from h2)
    exact ⟨"str", .base (.str _), .base (.str _), d1, d2, ans_shaped _, ⟨false, by decide +kernel⟩, ⟨false, by decide +kernel⟩⟩
  | none =>
    cases (show v = .str "none" from h1)
    cases (show u = .str "none" from h2)
    exact ⟨"str", .base (.str _), .base (.str _), d1, d2, ans_shaped _, ⟨false, by decide +kernel⟩, ⟨false, by decide +kernel⟩⟩
  | now =>
    cases (show v = .str "now" from h1)
    cases (show u = .str "now" from h2)
    exact ⟨"str", .base (.str _), .base (.str _), d1, d2, ans_shaped _, ⟨false, by decide +kernel⟩, ⟨false, by decide +kernel⟩⟩
end
end FB

set_option maxRecDepth 100000
set_option maxHeartbeats 4000000
set_option pp.maxSteps 400
/-! Plain: the depth of a row in order, price by price. -/
namespace FB
open PySem PySem.Spec PyProof.Rows L2
def prAt (l : List Ord) (k : Nat) : Int := ((l[k]?).map (·.pr)).getD 0
def chgB (l : List Ord) (k : Nat) : Bool := decide (k = 0) || !decide (prAt l (k - 1) = prAt l k)
def chgs (l : List Ord) : List Int := ((List.range l.length).filter (chgB l)).map (prAt l)
def sumAt (l : List Ord) (p : Int) : Int := ((l.filter fun o => decide (o.pr = p)).map (·.part)).sum
theorem prAt_app {l : List Ord} {o : Ord} {k : Nat} (h : k < l.length) : prAt (l ++ [o]) k = prAt l k := by
  unfold prAt
  rw [List.getElem?_append_left h]
theorem prAt_end (l : List Ord) (o : Ord) : prAt (l ++ [o]) l.length = o.pr := by
  unfold prAt
  rw [List.getElem?_append_right (Nat.le_refl _), Nat.sub_self]
  rfl
theorem chgs_app (l : List Ord) (o : Ord) : chgs (l ++ [o]) = chgs l ++ (if chgB (l ++ [o]) l.length = true then [o.pr] else []) := by
  unfold chgs
  rw [List.length_append, List.length_singleton, List.range_succ, List.filter_append, List.map_append]
  have e1 : (List.range l.length).filter (chgB (l ++ [o])) = (List.range l.length).filter (chgB l) := List.filter_congr fun k hk => by
    have hk := List.mem_range.mp hk
    unfold chgB
    rw [prAt_app hk, prAt_app (by omega)]
  have e2 : ((List.range l.length).filter (chgB l)).map (prAt (l ++ [o])) = ((List.range l.length).filter (chgB l)).map (prAt l) := List.map_congr_left fun k hk => prAt_app (List.mem_range.mp (List.mem_filter.mp hk).1)
  rw [e1, e2, List.filter_cons]
  by_cases c : chgB (l ++ [o]) l.length = true
  · rw [if_pos c, if_pos c]
    show _ ++ [prAt (l ++ [o]) l.length] = _
    rw [prAt_end]
  · rw [if_neg c, if_neg c]
    rfl
theorem sumAt_app (l : List Ord) (o : Ord) (p : Int) : sumAt (l ++ [o]) p = sumAt l p + (if o.pr = p then o.part else 0) := by
  unfold sumAt
  rw [List.filter_append, List.map_append, List.sum_append, List.filter_cons]
  by_cases c : o.pr = p
  · rw [if_pos (decide_eq_true c), if_pos c]
    show _ + ([o.part]).sum = _
    rw [List.sum_cons]
    show _ + (o.part + 0) = _
    omega
  · rw [if_neg (by simpa using c), if_neg c]
    rfl
theorem sumAt_none {l : List Ord} {p : Int} (h : ∀ x ∈ l, x.pr ≠ p) : sumAt l p = 0 := by
  unfold sumAt
  rw [List.filter_eq_nil_iff.mpr fun x hx => by simpa using h x hx]
  rfl
structure Deep (l : List Ord) : Prop where
  eq : l.foldl depthStep [] = (chgs l).map fun p => (p, sumAt l p)
  nd : (chgs l).Nodup
  mem : ∀ p ∈ chgs l, ∃ x ∈ l, x.pr = p
  last : ∀ l' x, l = l' ++ [x] → ∃ ps, chgs l = ps ++ [x.pr]
theorem pr_of_k1 {x y : Ord} {side : Bool} (hx : x.buy = side) (hy : y.buy = side) : x.k1 = y.k1 ↔ x.pr = y.pr := by
  unfold Ord.k1
  rw [hx, hy]
  cases side
  · exact Iff.rfl
  · show -x.pr = -y.pr ↔ x.pr = y.pr
    omega
theorem deep_snoc {side : Bool} {l : List Ord} {o : Ord} (h : Deep l) (hb : ∀ x ∈ l ++ [o], x.buy = side) (hs : (l ++ [o]).Pairwise fun a b => leO a b = true) : Deep (l ++ [o]) := by
  have fold : (l ++ [o]).foldl depthStep [] = depthStep (l.foldl depthStep []) o := by rw [List.foldl_append]; rfl
  have ho : o.buy = side := hb o (List.mem_append_right _ (List.mem_singleton_self _))
  rcases List.eq_nil_or_concat l with e | ⟨l', x, e⟩
  · subst e
    have ec : chgs ([] ++ [o]) = [o.pr] := by
      rw [chgs_app]
      rfl
    refine ⟨?_, by rw [ec]; exact (by simp), fun p hp => ?_, fun l2 x2 e2 => ⟨[], ?_⟩⟩
    · rw [fold, ec]
      show [(o.pr, o.part)] = [(o.pr, sumAt ([] ++ [o]) o.pr)]
      rw [sumAt_app, if_pos rfl]
      show _ = [(o.pr, 0 + o.part)]
      rw [Int.zero_add]
    · rw [ec] at hp
      exact ⟨o, List.mem_singleton_self _, (List.mem_singleton.mp hp).symm⟩
    · rw [ec]
      have : o = x2 := by
        have := congrArg List.getLast? e2
        simpa using this
      rw [this]
      rfl
  · rw [List.concat_eq_append] at e
    obtain ⟨ps, eps⟩ := h.last l' x e
    have hx : x ∈ l := by
      rw [e]
      exact List.mem_append_right _ (List.mem_singleton_self _)
    have hxb := hb x (List.mem_append_left _ hx)
    have pw := List.pairwise_append.mp hs
    have kx : x.k1 ≤ o.k1 := leO_k1 (pw.2.2 x hx o (List.mem_singleton_self _))
    have pwl := pw.1
    rw [e] at pwl
    have ky : ∀ y ∈ l, y.k1 ≤ x.k1 := fun y hy => by
      rw [e] at hy
      rcases List.mem_append.mp hy with hy | hy
      · exact leO_k1 ((List.pairwise_append.mp pwl).2.2 y hy x (List.mem_singleton_self _))
      · rw [List.mem_singleton.mp hy]
        exact Int.le_refl _
    have hlen : l.length = l'.length + 1 := by rw [e]; simp
    have ex1 : prAt (l ++ [o]) (l.length - 1) = x.pr := by
      rw [prAt_app (by omega), e]
      have : (l' ++ [x]).length - 1 = l'.length := by simp
      rw [this, prAt_end]
    have ecb : chgB (l ++ [o]) l.length = !decide (x.pr = o.pr) := by
      unfold chgB
      rw [ex1, prAt_end, decide_eq_false (by omega)]
      rfl
    have ec := chgs_app l o
    rw [ecb] at ec
    have eqd := h.eq
    rw [eps, List.map_append] at eqd
    by_cases c : x.pr = o.pr
    · rw [decide_eq_true c] at ec
      have ec : chgs (l ++ [o]) = chgs l := by
        rw [ec]
        show _ ++ [] = _
        rw [List.append_nil]
      have nd := h.nd
      rw [eps] at nd
      have npx : ∀ p ∈ ps, p ≠ x.pr := fun p hp z => (List.nodup_append.mp nd).2.2 p hp x.pr (List.mem_singleton_self _) z
      refine ⟨?_, by rw [ec]; exact h.nd, fun p hp => ?_, fun l2 x2 e2 => ⟨ps, ?_⟩⟩
      · rw [fold, eqd]
        show depthStep (_ ++ [(x.pr, sumAt l x.pr)]) o = _
        rw [depth_snoc, if_pos c, ec, eps, List.map_append]
        have e3 : ps.map (fun p => (p, sumAt (l ++ [o]) p)) = ps.map (fun p => (p, sumAt l p)) := List.map_congr_left fun p hp => by
          rw [sumAt_app, if_neg (fun z => npx p hp (by rw [c, z])), Int.add_zero]
        rw [e3]
        show _ = _ ++ [(x.pr, sumAt (l ++ [o]) x.pr)]
        rw [sumAt_app, if_pos c.symm]
      · rw [ec] at hp
        obtain ⟨y, hy, ey⟩ := h.mem p hp
        exact ⟨y, List.mem_append_left _ hy, ey⟩
      · have : o = x2 := by
          have := congrArg List.getLast? e2
          simpa using this
        rw [ec, eps, c, this]
    · rw [decide_eq_false c] at ec
      have ec : chgs (l ++ [o]) = chgs l ++ [o.pr] := ec
      have lt : x.k1 < o.k1 := by
        have : x.k1 ≠ o.k1 := fun z => c ((pr_of_k1 hxb ho).mp z)
        omega
      have ny : ∀ y ∈ l, y.pr ≠ o.pr := fun y hy z => by
        have k := ky y hy
        have := (pr_of_k1 (hb y (List.mem_append_left _ hy)) ho).mpr z
        omega
      have np : ∀ p ∈ chgs l, p ≠ o.pr := fun p hp z => by
        obtain ⟨y, hy, ey⟩ := h.mem p hp
        exact ny y hy (ey.trans z)
      refine ⟨?_, ?_, fun p hp => ?_, fun l2 x2 e2 => ⟨chgs l, ?_⟩⟩
      · rw [fold, eqd]
        show depthStep (_ ++ [(x.pr, sumAt l x.pr)]) o = _
        rw [depth_snoc, if_neg c, ec, List.map_append]
        have e3 : (chgs l).map (fun p => (p, sumAt (l ++ [o]) p)) = (chgs l).map (fun p => (p, sumAt l p)) := List.map_congr_left fun p hp => by
          rw [sumAt_app, if_neg (fun z => np p hp z.symm), Int.add_zero]
        rw [e3, eps, List.map_append]
        show _ = _ ++ [(o.pr, sumAt (l ++ [o]) o.pr)]
        rw [sumAt_app, if_pos rfl, sumAt_none ny, Int.zero_add]
        rfl
      · rw [ec, List.nodup_append]
        exact ⟨h.nd, (by simp), fun p hp q hq => by rw [List.mem_singleton.mp hq]; exact np p hp⟩
      · rw [ec] at hp
        rcases List.mem_append.mp hp with hp | hp
        · obtain ⟨y, hy, ey⟩ := h.mem p hp
          exact ⟨y, List.mem_append_left _ hy, ey⟩
        · exact ⟨o, List.mem_append_right _ (List.mem_singleton_self _), (List.mem_singleton.mp hp).symm⟩
      · have : o = x2 := by
          have := congrArg List.getLast? e2
          simpa using this
        rw [ec, this]
theorem deep_all {side : Bool} : ∀ (n : Nat) (l : List Ord), l.length = n → (∀ x ∈ l, x.buy = side) → l.Pairwise (fun a b => leO a b = true) → Deep l
  | 0, l, hl, _, _ => by
    have e := List.length_eq_zero_iff.mp hl
    subst e
    exact ⟨rfl, List.nodup_nil, nofun, fun l' x e => by simp at e⟩
  | n + 1, l, hl, hb, hs => by
    rcases List.eq_nil_or_concat l with e | ⟨l', x, e⟩
    · rw [e] at hl
      cases hl
    · rw [List.concat_eq_append] at e
      subst e
      have ih := deep_all n l' (by simpa using hl) (fun y hy => hb y (List.mem_append_left _ hy)) (List.pairwise_append.mp hs).1
      exact deep_snoc ih hb hs
theorem depth_by (os : List Ord) (side : Bool) : depth os side = (chgs (row os side)).map fun p => (p, sumAt (row os side) p) :=
  (deep_all (side := side) _ _ rfl (fun _ hx => (row_mem.mp hx).2) (row_sorted os side)).eq
theorem depth_strip {l m : List Ord} (h : l.map strip = m.map strip) : l.foldl depthStep [] = m.foldl depthStep [] := by
  have e : ∀ (l : List Ord) acc, l.foldl depthStep acc = (l.map strip).foldl depthStep acc := fun l => by
    induction l with
    | nil => intro acc; rfl
    | cons a l ih =>
      intro acc
      rw [List.map_cons, List.foldl_cons, List.foldl_cons, ih]
      rfl
  rw [e l, e m, h]
theorem Eqv.depth {B W : Bk} (h : Eqv B W) (ok : BkOk B) (side : Bool) : FB.depth W.ords side = FB.depth B.ords side := depth_strip (h.rows ok side)
end FB

set_option maxRecDepth 100000
set_option maxHeartbeats 4000000
set_option pp.maxSteps 400
/-! The law's own book: the same as the program's. -/
namespace FB
open PySem PySem.Spec PyProof.Rows L2
section
variable {P : Program} {w : World} {K : PySem.W.Frag} {mg : Str → Option Value} {base : Heap}
/-- the scope of the list of prices and sums -/
abbrev dueSc : Scope := { kind := .function, names := [(".0", .local), ("_law_price_here", .cell), ("sum", .globalImplicit), ("_law_rows", .cell)], isGenerator := false, isCoroutine := false }
def prD2 (z : Int × Int) : PyData := .tuple [.int z.1, .int z.2]
theorem prs_shaped (l : List (Int × Int)) : SeqAt.shaped (.list (l.map prD2)) = true := by
  have h := list_shaped (l := l.map prD2) fun x hx => by
    obtain ⟨i, _, q⟩ := List.mem_map.mp hx
    rw [← q]
    exact ⟨rfl, Nat.le_refl 1⟩
  unfold SeqAt.shaped
  rw [h.1]
  show decide (_ ≤ 64) = true
  exact decide_eq_true (by omega)
theorem prs_dp {K : PySem.W.Frag} {H : Hp} {r : Addr} {zs : List (Int × Int)} {ys : List V} (hr : H r = some (.lst ys)) (h : Paired (PrAt H) zs ys) : Dp K H (.ref r) (.list (zs.map prD2)) :=
  .lst (.inl (.inl hr)) (dpAll_of (F := PrAt H) (g := prD2) (fun z y ⟨t, e, ht⟩ => by rw [e]; exact .tup (.inl (.inl ht)) (.cons (.int _) (.cons (.int _) .nil))) h)
theorem pr_get {l : List Ord} {k : Nat} (h : k < l.length) : ∃ o, l[k]? = some o ∧ o ∈ l ∧ o.pr = prAt l k := by
  refine ⟨l[k], List.getElem?_eq_getElem h, List.getElem_mem h, ?_⟩
  unfold prAt
  rw [List.getElem?_eq_getElem h]
  rfl
theorem pair_map {α β γ : Type} {F : γ → β → Prop} {g : α → γ} : ∀ {l : List α} {m : List β}, Paired (fun a b => F (g a) b) l m → Paired F (l.map g) m
  | _, _, .nil => .nil
  | _, _, .cons h t => .cons h (pair_map t)
abbrev sameN : List Str := ["_law_book", "_law_world", "_law_side_here", "_law_rows", "_law_prices", "_law_due", "_law_one", "_law_number", "_law_k", "_law_price_here"]
theorem scSame : FnScope sameN ["_law_book", "_law_world"] (defScope s_l_same) := ⟨rfl, rfl, rfl, by decide +kernel, rfl, by decide +kernel, by decide +kernel⟩
def spSame (K : PySem.W.Frag) : Sp := fun vs H Q _ => ∃ (b d wd lo : Addr) (B W : Bk), vs = [.ref b, .ref wd] ∧ BookAt K H b d B ∧ BkOk B ∧ WorldAt H wd lo W ∧ Eqv B W ∧ W.ords.length ≤ 1000 ∧ ∀ H', L2.Same H H' → Q (.bl true) H'
theorem w_l_same (T : Tx K mg) : Fn P w K mg base CX0 5 "_law_same" ["_law_book", "_law_world"] (spSame K) := by
  refine ⟨ok0 T.f_l_same scSame (fun _ _ _ _ _ _ us hl => match us, hl with | [_, _], _ => rfl) (fun vs H Q E h => ?_) (fun cdv A outer s H vs Q E hr h => ?_), T.g_l_same, ?_⟩
  · obtain ⟨b, d, wd, lo, B, W, rfl, _⟩ := h
    rfl
  · obtain ⟨b, d, wd, lo, B, W, rfl, hB, ok, hW, hE, hlen, k⟩ := h
    have hu := hu_of hr
    have hu64 : A.units + 3 + 64 < cLine := by
      have := hr.un
      have e : (A.deeper (envOfC "_law_same" (defScope s_l_same) s.heap.objs.size (He.ga K "_law_same") cdv)).units = A.units + 3 := rfl
      omega
    have GR : Fn P w K mg base CX0 4 "_law_side" ["_law_world", "_law_side_here"] (spWSide K) := w_l_side T
    have GT : Mt P w K mg base CX0 3 "Book" "resting" ["self", "side"] (spResting K) := w_resting T
    have GD : Mt P w K mg base CX0 3 "Book" "depth" ["self", "side"] (spDepth K) := w_depth T
    have GL : Mt P w K mg base (L2.CX P w) 2 "Book" "left" ["self", "number"] (spLeft K) := w_left T
    have GS : Mt P w K mg base (L2.CX P w) 2 "Book" "shown" ["self", "number"] (spShown K) := w_shown T
    have GLa : Mt P w K mg base CX0 1 "Book" "last" ["self"] (spLast K) := w_last T
    have GV : Mt P w K mg base CX0 1 "Book" "volume" ["self"] (spVolume K) := w_volume T
    have GC : Mt P w K mg base CX0 1 "Book" "is_calling" ["self"] (spIsCalling K) := w_is_calling T
    have GI : Fn P w K mg base CX0 1 "_law_is" ["_law_found", "_law_due"] (spWIs K) := w_l_is T
    have hr1 := hr.mono (j := 1) (by decide)
    have hr2 := hr.mono (j := 2) (by decide)
    have hr3 := hr.mono (j := 3) (by decide)
    refine ⟨_, pss_cons (ps_for PassesOwn.never rfl (pi_tup (pe_tup (pa_cons pe_str (pa_cons pe_str pa_nil)))) (pg_name (i := 2) scSame.nd rfl (Or.inl rfl))
        (pss_cons (ps_set (i := 3) scSame.nd rfl (Or.inr rfl) (pe_fn GR hr rfl pass0 (pa_cons (pv 1) (pa_cons (pv 2) pa_nil))))
        (pss_cons (ps_if (pt_cmpR (op_neD hu64) (pe_mt (pv 0) GT hr3 pass0 (pa_cons (pv 2) pa_nil)) (pe_lc (own := [("_law_one", 6)]) (g := gName 6) (tt := tYes) (te := tDGet (tVar 6) (tC (.str "number"))) rfl scSame.nd (pi_list (pv 3))
            (blkOk_by (N := sameN) (sc := defScope s_l_same) (by decide +kernel)) (fun _ _ _ _ _ => pg_name (i := 6) scSame.nd rfl (Or.inl rfl)) (fun _ _ _ _ _ => pts_nil) (fun _ _ _ _ _ => pe_dget hu (pv 6) pe_str (fun _ _ => rfl))) (nomark _)) (pss_one (ps_ret pe_bl)) pss_nil)
        (pss_cons (ps_setLc (i := 4) (own := [("_law_k", 8)]) (g := gName 8) (tt := tOr (tTest (tOp rEq (tVar 8) (tC (.int 0)))) (tTest (tOp rNe (tDGet (tOp (rIx K) (tVar 3) (tOp (rI0 fun i j => .int (i - j)) (tVar 8) (tC (.int 1)))) (tC (.str "price"))) (tDGet (tOp (rIx K) (tVar 3) (tVar 8)) (tC (.str "price"))))))
            (te := tDGet (tOp (rIx K) (tVar 3) (tVar 8)) (tC (.str "price"))) rfl scSame.nd rfl rfl (sw_true rfl rfl rfl (by decide +kernel)) (pi_range1 rfl T.z_range (pa_cons (pe_callB call_len_seq rfl T.z_len boot_len (pa_cons (pv 3) pa_nil)) pa_nil))
            (blkOk_by (N := sameN) (sc := defScope s_l_same) (by decide +kernel)) (fun _ _ _ _ _ => pg_name (i := 8) scSame.nd rfl (Or.inl rfl))
            (fun _ _ _ _ _ => pts_one (PW.pt (pw_or (pt_cmpR op_eq (pv 8) pe_int (nomark _)) (pw_or1 (pt_cmpR op_ne (pe_dget hu (pe_ix (r := rIx K) ix_seq (pv 3) (pe_op op_sub (pv 8) pe_int) (fun _ _ => rfl)) pe_str (fun _ _ => rfl)) (pe_dget hu (pe_ix (r := rIx K) ix_seq (pv 3) (pv 8) (fun _ _ => rfl)) pe_str (fun _ _ => rfl)) (nomark _))))))
            (fun _ _ _ _ _ => pe_dget hu (pe_ix (r := rIx K) ix_seq (pv 3) (pv 8) (fun _ _ => rfl)) pe_str (fun _ _ => rfl)))
        (pss_cons (ps_setLc (i := 5) (own := [("_law_price_here", 9)]) (g := gName 9) (tt := tYes) (te := tTup (tCons (tVar 9) (tCons (tCB (rSum K) (tCons (tLc (iList K (tVar 3)) (gName 6) (tTest (tOp rEq (tDGet (tVar 6) (tC (.str "price"))) (tVar 9))) (tDGet (tVar 6) (tC (.str "shown"))) [6]) tNil)) tNil))) rfl scSame.nd rfl rfl (sw_true rfl rfl rfl (by decide +kernel)) (pi_list (pv 4))
            (blkOk_by (N := sameN) (sc := defScope s_l_same) (by decide +kernel)) (fun _ _ _ _ _ => pg_name (i := 9) scSame.nd rfl (Or.inr rfl)) (fun _ _ _ _ _ => pts_nil)
            (fun _ _ _ _ _ => pe_tup (pa_cons (pv 9) (pa_cons (pe_callB (cr_sum rfl) rfl T.z_sum boot_sum (pa_cons (pe_lc (own := [("_law_one", 6)]) (g := gName 6) (tt := tTest (tOp rEq (tDGet (tVar 6) (tC (.str "price"))) (tVar 9))) (te := tDGet (tVar 6) (tC (.str "shown"))) rfl scSame.nd (pi_list (pv 3))
              (blkOk_by (N := sameN) (sc := dueSc) (by decide +kernel)) (fun _ _ _ _ _ => pg_name (i := 6) scSame.nd rfl (Or.inl rfl)) (fun _ _ _ _ _ => pts_one (pt_cmpR op_eq (pe_dget hu (pv 6) pe_str (fun _ _ => rfl)) (pv 9) (nomark _))) (fun _ _ _ _ _ => pe_dget hu (pv 6) pe_str (fun _ _ => rfl))) pa_nil)) pa_nil))))
        (pss_one (ps_if (pt_cmpR (op_neD hu64) (pe_mt (pv 0) GD hr3 pass0 (pa_cons (pv 2) pa_nil)) (pv 5) (nomark _)) (pss_one (ps_ret pe_bl)) pss_nil)))))))
      (pss_cons (ps_for PassesOwn.never rfl (pi_list (pe_dget hu (pv 1) pe_str (fun _ _ => rfl))) (pg_name (i := 6) scSame.nd rfl (Or.inl rfl))
        (pss_cons (ps_set (i := 7) scSame.nd rfl (Or.inl rfl) (pe_dget hu (pv 6) pe_str (fun _ _ => rfl)))
        (pss_one (ps_if (PW.pt (pw_or (pt_not (pt_val (pe_fn GI hr1 rfl pass0 (pa_cons (pe_mt (pv 0) GL hr2 passL (pa_cons (pv 7) pa_nil)) (pa_cons (pe_dget hu (pv 6) pe_str (fun _ _ => rfl)) pa_nil)))))
          (pw_or1 (pt_not (pt_val (pe_fn GI hr1 rfl pass0 (pa_cons (pe_mt (pv 0) GS hr2 passL (pa_cons (pv 7) pa_nil)) (pa_cons (pe_dget hu (pv 6) pe_str (fun _ _ => rfl)) pa_nil)))))))) (pss_one (ps_ret pe_bl)) pss_nil))))
      (pss_cons (ps_if (PW.pt (pw_or (pt_not (pt_val (pe_fn GI hr1 rfl pass0 (pa_cons (pe_mt0 (pv 0) GLa hr1 pass0) (pa_cons (pe_dget hu (pv 1) pe_str (fun _ _ => rfl)) pa_nil)))))
          (pw_or1 (pt_not (pt_val (pe_fn GI hr1 rfl pass0 (pa_cons (pe_mt0 (pv 0) GV hr1 pass0) (pa_cons (pe_dget hu (pv 1) pe_str (fun _ _ => rfl)) pa_nil)))))))) (pss_one (ps_ret pe_bl)) pss_nil)
      (pss_one (ps_ret (pe_fn GI hr1 rfl pass0 (pa_cons (pe_mt0 (pv 0) GC hr1 pass0) (pa_cons (pe_dget hu (pv 1) pe_str (fun _ _ => rfl)) pa_nil))))))), ?_⟩
    have okW := hE.ok ok
    have hlB : B.ords.length ≤ 1000 := by rw [← hE.len]; exact hlen
    have hpB := priced_of ok
    refine ⟨by show 2 ≤ sizeLine; decide, fun tq htq => ⟨tq, rfl, ⟨_, SqT.of upd_same⟩, ?_⟩⟩
    have sq := same_new (o := .tup [V.str "buy", V.str "sell"]) htq
    have hqq : upd H tq (.tup [V.str "buy", V.str "sell"]) tq = some (.tup [V.str "buy", V.str "sell"]) := upd_same
    generalize upd H tq _ = Hq at *
    refine for_tup (K := K) (a := tq) (xs := [V.str "buy", V.str "sell"]) (fun j σ H' => L2.Same Hq H' ∧ ∃ v2 v3 v4 v5, σ = [some (.ref b), some (.ref wd), v2, v3, v4, v5, none, none, none, none]) ⟨L2.Same.refl _, none, none, none, none, rfl⟩ (fun j σ H' _ h => SqT.of (h.1 _ _ hqq)) ?_ ?_
    · rintro j y σ H1 hj ⟨s1, v2, v3, v4, v5, rfl⟩
      obtain ⟨side, rfl⟩ : ∃ side, y = V.str (sideStr side) := by
        have hm := List.mem_of_getElem? hj
        rcases List.mem_cons.mp hm with e | hm
        · exact ⟨true, e⟩
        · exact ⟨false, List.mem_singleton.mp hm⟩
      have hB1 := hB.same (sq.trans s1)
      have hW1 := hW.same (sq.trans s1)
      refine ⟨_, rfl, _, rfl, wd, lo, W, side, rfl, hW1, okW, hlen, fun H2 rr s2 _ hrr => ?_⟩
      have hB2 := hB1.same s2
      have hW2 := hW1.same s2
      refine ⟨_, rfl, mB hB2 rfl ⟨_, rfl, b, d, B, side, rfl, hB2, hpB, hlB, fun H3 q s3 _ hq => ?_⟩⟩
      have hW3 := hW2.same s3
      have hrr3 := s3 _ _ hrr
      have rl : (row W.ords side).length ≤ 1000 := Nat.le_trans (row_len _ _) hlen
      refine ⟨_, rfl, rr, rfl, ⟨_, SqL.of hrr3⟩, fun D hD => ?_⟩
      refine lc_rel (K := K) (zs := row W.ords side) (enc := refO) (p := fun _ => true) (R := fun z y _ => y = .int z.num) (SqL.of hrr3) (Nat.le_trans rl (by decide)) hD (fun _ _ _ _ _ _ _ h => h) ?_ ?_
      · intro o ho H4 s4 Qy Qn qy qn
        exact ⟨rfl, iteT (B := Qn H4) (wget rfl (s4 _ _ (hW3.os o (row_mem.mp ho).1)) (v := .int o.num) rfl (qy rfl _ H4 (L2.Same.refl _) rfl))⟩
      intro H4 ys4 s4 hD4 hP4
      rw [List.filter_eq_self.mpr (fun _ _ => rfl)] at hP4
      have e4 := paired_eq hP4
      have e5 : ys4 = (resting B.ords side).map V.int := by
        rw [e4, ← hE.resting ok]
        unfold resting
        rw [List.map_map]
        rfl
      rw [e5] at hD4
      refine ⟨_, _, dp_ints (s4 _ _ hq), dp_ints hD4, ints_shaped _, ints_shaped _, _, rfl, ?_⟩
      rw [eqv_same (ints_shaped _)]
      refine iteF ?_
      have hrr4 := s4 _ _ hrr3
      have hW4 := hW3.same s4
      have hB4 := (hB2.same s3).same s4
      have hl62 : ((row W.ords side).map refO).length ≤ 1000 := by
        rw [List.length_map]
        exact rl
      have gt : ∀ {σ : L2.St} {Hx : Hp} {k : Nat} {i : Int} {Qx : VK}, σ[3]? = some (some (.ref rr)) → L2.Same H4 Hx → k < (row W.ords side).length → i = (k : Int) → Qx (.int (prAt (row W.ords side) k)) Hx →
          ∀ {ti : TE}, (∀ R : VK, R (.int i) Hx → ti σ Hx R) → tDGet (tOp (rIx K) (tVar 3) ti) (tC (.str "price")) σ Hx Qx := fun {σ Hx k i Qx} h3 sx hk ei q {ti} hti => by
        obtain ⟨o, ho, hm, ep⟩ := pr_get hk
        have hmo := (row_mem.mp hm).1
        have hxo := sx _ _ (hW4.os o hmo)
        subst ei
        exact ⟨_, h3, hti _ (.inl ⟨rr, _, _, _, rfl, rfl, SqL.of (sx _ _ hrr4), atI_nat (j := k) (v := refO o) (by rw [List.getElem?_map, ho]; rfl), o.ad, .int (prAt (row W.ords side) k), rfl, .inl ⟨_, Sum.inr "price", .inl hxo, rfl, by show some _ = some (optV o.price); rw [(okW.os o hmo).price, ep]; rfl⟩, q⟩)⟩
      refine ⟨_, rfl, rr, _, rfl, .inl (SqL.of hrr4), _, rfl, by omega, by omega, fun D2 hD2 => ?_⟩
      have en : (((row W.ords side).map refO).length : Int).toNat = (row W.ords side).length := by
        rw [List.length_map]
        exact Int.toNat_natCast _
      rw [en]
      refine lc_relJ (zs := List.range (row W.ords side).length) (enc := fun k : Nat => V.int k) (p := chgB (row W.ords side)) (R := fun k y _ => y = .int (prAt (row W.ords side) k)) (Itr 0 (row W.ords side).length) (fun i Hx _ h => by rw [List.length_range] at h; exact h) (fun Hx _ => by rw [List.length_range]; exact Nat.le_refl _)
        (fun i Hx x H' _ h hy => ⟨hy.1, i, by rw [List.length_range] at h; exact List.getElem?_range h, by rw [hy.2, Int.zero_add]⟩) (by rw [List.length_range]; exact Nat.le_trans rl (by decide)) hD2 (fun _ _ _ _ _ _ _ h => h) ?_ ?_
      · intro k hk Hx sx Qy Qn qy qn
        have hk := List.mem_range.mp hk
        refine ⟨rfl, _, rfl, rfl, _, rfl, ?_⟩
        have yes : ∀ (c : chgB (row W.ords side) k = true), tDGet (tOp (rIx K) (tVar 3) (tVar 8)) (tC (.str "price")) [some (V.ref b), some (.ref wd), some (.str (sideStr side)), some (.ref rr), v4, v5, none, none, some (.int k), none] Hx Qy := fun c =>
          gt rfl sx hk rfl (qy c _ Hx (L2.Same.refl _) rfl) fun R r => ⟨_, rfl, r⟩
        by_cases k0 : k = 0
        · subst k0
          exact ifY rfl (iteT (yes rfl))
        · refine ifN (fun z => k0 (by have := V.int.inj z; omega)) ?_
          refine gt (k := k - 1) (i := (k : Int) - 1) rfl sx (by omega) (by omega) ?_ fun R r => ⟨_, rfl, _, _, rfl, rfl, r⟩
          refine gt (k := k) (i := (k : Int)) rfl sx hk rfl ?_ fun R r => ⟨_, rfl, r⟩
          refine ⟨rfl, _, rfl, ?_⟩
          have ec : chgB (row W.ords side) k = !decide (prAt (row W.ords side) (k - 1) = prAt (row W.ords side) k) := by
            unfold chgB
            rw [decide_eq_false k0]
            rfl
          by_cases c : prAt (row W.ords side) (k - 1) = prAt (row W.ords side) k
          · exact iteNS (by rw [c]) (qn (by rw [ec, decide_eq_true c]; rfl) Hx (L2.Same.refl _))
          · rw [decide_eq_false (fun z => c (V.int.inj z))]
            exact iteT (yes (by rw [ec, decide_eq_false c]; rfl))
      intro H5 ys5 s5 hD5 hP5
      have e6 : ys5 = (chgs (row W.ords side)).map V.int := by
        rw [paired_eq hP5]
        unfold chgs
        rw [List.map_map]
        rfl
      rw [e6] at hD5
      have hrr5 := s5 _ _ hrr4
      have hW5 := hW4.same s5
      have hB5 := hB4.same s5
      have hcl : (chgs (row W.ords side)).length ≤ 1000 := by
        unfold chgs
        rw [List.length_map]
        refine Nat.le_trans (List.length_filter_le _ _) ?_
        rw [List.length_range]
        exact rl
      refine ⟨_, rfl, D2, rfl, ⟨_, SqL.of hD5⟩, fun D3 hD3 => ?_⟩
      refine lc_rel (K := K) (zs := chgs (row W.ords side)) (enc := V.int) (p := fun _ => true) (R := fun p y Hx => ∃ t, y = .ref t ∧ Hx t = some (.tup [.int p, .int (sumAt (row W.ords side) p)])) (SqL.of hD5) (Nat.le_trans hcl (by decide)) hD3 ?_ ?_ ?_
      · rintro z y Hx Hy xs hx sbx ⟨t, e, ht⟩
        exact ⟨t, e, sbx t _ (ne_of ht hx (by intro z; cases z)) ht⟩
      · intro p hp Hx sx Qy Qn qy qn
        have hrx := sx _ _ hrr5
        have hWx := hW5.same sx
        refine ⟨rfl, iteT (B := Qn Hx) ⟨_, rfl, _, rfl, rr, rfl, ⟨_, SqL.of hrx⟩, fun D4 hD4 => ?_⟩⟩
        refine lc_rel (K := K) (zs := row W.ords side) (enc := refO) (p := fun o => decide (o.pr = p)) (R := fun z y _ => y = .int z.part) (SqL.of hrx) (Nat.le_trans rl (by decide)) hD4 (fun _ _ _ _ _ _ _ h => h) ?_ ?_
        · intro o ho Hy sy Qy2 Qn2 qy2 qn2
          have hmo := (row_mem.mp ho).1
          have hyo := sy _ _ (hWx.os o hmo)
          refine ⟨rfl, wget rfl hyo (v := .int o.pr) (by show some (optV o.price) = _; rw [(okW.os o hmo).price]; rfl) ⟨_, rfl, rfl, _, rfl, ?_⟩⟩
          by_cases c : o.pr = p
          · exact ifY (by rw [c]) (wget rfl hyo (v := .int o.part) rfl (qy2 (decide_eq_true c) _ Hy (L2.Same.refl _) rfl))
          · exact ifN (fun z => c (V.int.inj z)) (qn2 (decide_eq_false c) Hy (L2.Same.refl _))
        intro Hy ysy sy hDy hPy
        refine ⟨D4, ((row W.ords side).filter fun o => decide (o.pr = p)).map (·.part), rfl, SqL.of (by rw [hDy, paired_eq hPy, List.map_map]; rfl), by show 2 ≤ sizeLine; decide, fun t ht => ?_⟩
        exact qy rfl _ _ (same_upd sy ht) ⟨t, rfl, upd_same⟩
      intro H6 ys6 s6 hD6 hP6
      rw [List.filter_eq_self.mpr (fun _ _ => rfl)] at hP6
      have hB6 := hB5.same s6
      refine ⟨_, rfl, mB hB6 rfl ⟨_, rfl, b, d, B, side, rfl, hB6, hpB, hlB, fun H7 q7 ys7 s7 _ hq7 pq7 => ?_⟩⟩
      have hdd : FB.depth B.ords side = (chgs (row W.ords side)).map fun p => (p, sumAt (row W.ords side) p) := by
        rw [← hE.depth ok, depth_by]
      have hP7 : Paired (PrAt H7) (FB.depth B.ords side) ys6 := by
        rw [hdd]
        exact pair_map (paired_map (fun p y ⟨t, e, ht⟩ => ⟨t, e, s7 _ _ ht⟩) hP6)
      refine ⟨_, rfl, _, _, prs_dp hq7 pq7, prs_dp (s7 _ _ hD6) hP7, prs_shaped _, prs_shaped _, _, rfl, ?_⟩
      rw [eqv_same (prs_shaped _)]
      exact iteF ⟨s1.trans (s2.trans (s3.trans (s4.trans (s5.trans (s6.trans s7))))), _, _, _, _, rfl⟩
    · rintro σ H1 ⟨s1, v2, v3, v4, v5, rfl⟩
      have hBs := hB.same (sq.trans s1)
      have hWs := hW.same (sq.trans s1)
      refine wget rfl hWs.dc (v := .ref lo) rfl ⟨lo, rfl, ⟨_, .inl (.inl hWs.ls)⟩, ?_⟩
      refine for_zs (K := K) (a := lo) (zs := W.ords) (enc := refO) (fun i σ H' => L2.Same H1 H' ∧ ∃ v6 v7, σ = [some (.ref b), some (.ref wd), v2, v3, v4, v5, v6, v7, none, none]) ⟨L2.Same.refl _, none, none, rfl⟩ (fun i σ H' _ h => .inl (.inl (h.1 _ _ hWs.ls))) ?_ ?_
      · rintro i o' σ H2 hi ⟨s2, v6, v7, rfl⟩
        have ho' : o' ∈ W.ords := List.mem_of_getElem? hi
        have hB2 := hBs.same s2
        have hoo := (hWs.same s2).os o' ho'
        obtain ⟨o, ho, es⟩ := hE.back ho'
        obtain ⟨x1, _, _, _, x5, _, x7, _⟩ := strip_eq es
        have ef : findO B.ords o'.num = some o := by
          rw [← x1]
          exact find_mem' ok.ndn ho
        refine wget rfl hoo (v := .int o'.num) rfl ?_
        refine ⟨_, rfl, mB hB2 rfl ⟨_, rfl, b, d, B, o'.num, rfl, hB2, fun o2 e2 => ?_, fun e2 => ?_⟩⟩
        · rw [ef] at e2
          cases e2
          refine wget rfl hoo (v := .int o'.rest) rfl ⟨.int o.rest, .int o'.rest, _, _, rfl, by rw [x5]; exact Alike.int _, true, rfl, iteF ?_⟩
          refine ⟨_, rfl, mB hB2 rfl ⟨_, rfl, b, d, B, o'.num, rfl, hB2, fun o2 e2 => ?_, fun e2 => ?_⟩⟩
          · rw [ef] at e2
            cases e2
            exact wget rfl hoo (v := .int o'.part) rfl ⟨.int o.part, .int o'.part, _, _, rfl, by rw [x7]; exact Alike.int _, true, rfl, iteF ⟨s2, _, _, rfl⟩⟩
          · rw [ef] at e2
            cases e2
        · rw [ef] at e2
          cases e2
      · rintro σ H2 ⟨s2, v6, v7, rfl⟩
        have hB2 := hBs.same s2
        have hW2 := hWs.same s2
        obtain ⟨dl, tl, al⟩ := Alike.opt (K := K) (H := H2) B.last
        refine ⟨_, rfl, mB hB2 rfl ⟨b, d, B, rfl, hB2, wget rfl hW2.dc (v := optV B.last) (by show some (optV W.last) = _; rw [hE.last]) ⟨_, _, dl, tl, rfl, al, true, rfl, iteF ?_⟩⟩⟩
        refine ⟨_, rfl, mB hB2 rfl ⟨b, d, B, rfl, hB2, wget rfl hW2.dc (v := .int B.traded) (by show some (V.int W.traded) = _; rw [hE.traded]) ⟨_, _, _, _, rfl, Alike.int _, true, rfl, iteF ?_⟩⟩⟩
        refine ⟨_, rfl, mB hB2 rfl ⟨b, d, B, rfl, hB2, wget rfl hW2.dc (v := .bl B.calling) (by show some (V.bl W.calling) = _; rw [hE.calling]) ⟨_, _, _, _, rfl, Alike.bl _, ?_⟩⟩⟩
        exact k H2 ((sq.trans s1).trans s2)
  · obtain ⟨fd, F⟩ := T.f_l_same
    exact F.kp
end
end FB

set_option maxRecDepth 100000
set_option maxHeartbeats 4000000
set_option pp.maxSteps 400
/-! law_k10_book. -/
namespace FB
open PySem PySem.Spec PyProof.Rows L2
/-- where the script stands, beside the law's book's list -/
def Scr (K : PySem.W.Frag) (H : Hp) (a lo : Addr) (xs : List V) : Prop := (∀ H2, SqL K H2 a xs) ∨ (a ≠ lo ∧ Rd H a (.lst xs))
theorem Scr.sq {K : PySem.W.Frag} {H : Hp} {a lo : Addr} {xs : List V} (h : Scr K H a lo xs) : SqL K H a xs := by
  rcases h with h | ⟨_, h⟩
  · exact h H
  · exact .inl h
theorem Scr.of {K : PySem.W.Frag} {H H' : Hp} {a lo : Addr} {xs : List V} (h : SqL K H a xs) (s : L2.Same H H') (n : H lo = none) : Scr K H' a lo xs := by
  rcases h with (h | ⟨o, h⟩) | h
  · exact .inr ⟨ne_of_none h n, .inl (s _ _ h)⟩
  · exact .inr ⟨ne_of_none h n, .inr ⟨o, s _ _ h⟩⟩
  · exact .inl fun _ => .inr h
theorem Scr.same {K : PySem.W.Frag} {H H' : Hp} {a lo : Addr} {xs : List V} (h : Scr K H a lo xs) (s : L2.Same H H') : Scr K H' a lo xs := by
  rcases h with h | ⟨n, h | ⟨o, h⟩⟩
  · exact .inl h
  · exact .inr ⟨n, .inl (s _ _ h)⟩
  · exact .inr ⟨n, .inr ⟨o, s _ _ h⟩⟩
theorem Scr.step {K : PySem.W.Frag} {H H' : Hp} {a wd lo lo' : Addr} {W W' : Bk} {xs : List V} (h : Scr K H a lo xs) (hW : WorldAt H wd lo W) (st : WStep [] wd lo W H lo' W' H') : Scr K H' a lo' xs := by
  have go : ∀ {u : HO}, H a = some u → a ≠ lo → (∀ kvs, u ≠ .dK kvs) → H' a = some u ∧ a ≠ lo' := fun {u} e n nd =>
    ⟨st.keep a u e (ne_of e hW.dc (nd _)) n (fun x hx => (ne_of e (hW.os x hx) (nd _)).symm) (by simp), by
      rcases st.lo_ with q | q
      · rw [q]
        exact n
      · exact ne_of_none e q⟩
  rcases h with h | ⟨n, h | ⟨o, h⟩⟩
  · exact .inl h
  · have g := go h n fun kvs z => by cases z
    exact .inr ⟨g.2, .inl g.1⟩
  · have g := go h n fun kvs z => by cases z
    exact .inr ⟨g.2, .inr ⟨o, g.1⟩⟩
/-- behind a deed of the program's book, the law's list locked -/
theorem Scr.locked {K : PySem.W.Frag} {H H' : Hp} {a d lo : Addr} {od : Obj} {u : HO} {kvs : List (Key × V)} {xs : List V} (h : Scr K H a lo xs) (hd : H d = some (.dK kvs)) (k : Kd d (upd H lo (.frz od u)) H') : Scr K (upd H' lo u) a lo xs := by
  rcases h with h | ⟨n, h | ⟨o, h⟩⟩
  · exact .inl h
  · refine .inr ⟨n, .inl ?_⟩
    rw [upd_ne n]
    exact k a _ (by rw [upd_ne n]; exact h) rfl (ne_of h hd (by intro z; cases z))
  · refine .inr ⟨n, .inr ⟨o, ?_⟩⟩
    rw [upd_ne n]
    exact k a _ (by rw [upd_ne n]; exact h) rfl (ne_of h hd (by intro z; cases z))
theorem Ans.keep {H H' : Hp} {a : Ans} {v : V} (h : a.At H v) (k1 : TupKeep H H') (k2 : ∀ r ys, H r = some (.lst ys) → H' r = some (.lst ys)) : a.At H' v := by
  cases a with
  | placed n es =>
    obtain ⟨t, r, ys, e, ht, hr, p⟩ := h
    exact ⟨t, r, ys, e, k1 _ _ ht, k2 _ _ hr, evs_keep p k1⟩
  | trades cs =>
    obtain ⟨r, ys, e, hr, p⟩ := h
    exact ⟨r, ys, e, k2 _ _ hr, cts_keep p k1⟩
  | left n => exact h
  | done => exact h
  | bad => exact h
  | none => exact h
  | now => exact h
theorem book_dct {K : PySem.W.Frag} {H : Hp} {x d : Addr} {B : Bk} (h : BookAt K H x d B) {c : Addr} {f : Str} {v : V} {l : List (Key × V)} (e : H c = some (.dK ((Sum.inr f, v) :: l))) : d ≠ c := ne_of h.dc e fun z => by
  injection z with z
  cases hb : B.ords with
  | nil =>
    rw [hb] at z
    cases z
  | cons o os =>
    rw [hb] at z
    injection z with z _
    injection z with z _
    cases z
theorem BookAt.step {K : PySem.W.Frag} {H H' : Hp} {x d wd lo lo' : Addr} {B W W' : Bk} (h : BookAt K H x d B) (hW : WorldAt H wd lo W) (st : WStep [] wd lo W H lo' W' H') : BookAt K H' x d B := by
  have go : ∀ {a C dx : Addr} {fs : List (Str × V)}, H a = some (.ins C dx fs) → H' a = some (.ins C dx fs) := fun e =>
    st.keep _ _ e (ne_of e hW.dc (by intro z; cases z)) (ne_of e hW.ls (by intro z; cases z)) (fun y hy => (ne_of e (hW.os y hy) (by intro z; cases z)).symm) (by simp)
  refine ⟨let ⟨dx, e⟩ := h.bk; ⟨dx, go e⟩, ?_, fun o ho => let ⟨dx, e⟩ := h.os o ho; ⟨dx, go e⟩, h.nda, h.ndn⟩
  exact st.keep _ _ h.dc (book_dct h hW.dc) (ne_of h.dc hW.ls (by intro z; cases z)) (fun y hy => (book_dct h (hW.os y hy)).symm) (by simp)
theorem Deed.word {dd : Deed} {xs : List V} (h : dd.At xs) : ∃ wd : Str, atI xs 0 = some (.str wd) ∧ (wd = "change" → ∃ n m, xs = [.str "change", .int n, .int m]) := by
  cases dd with
  | place o b p m s y =>
    have h : xs = _ := h
    subst h
    exact ⟨"place", rfl, fun z => absurd z (by decide)⟩
  | cancel n =>
    obtain ⟨m, rfl⟩ := h
    exact ⟨"cancel", rfl, fun z => absurd z (by decide)⟩
  | change n m =>
    have h : xs = _ := h
    subst h
    exact ⟨"change", rfl, fun _ => ⟨n, m, rfl⟩⟩
  | call =>
    obtain ⟨l, rfl⟩ := h
    exact ⟨"call", atI_nat (j := 0) rfl, fun z => absurd z (by decide)⟩
  | uncross =>
    obtain ⟨l, rfl⟩ := h
    exact ⟨"uncross", atI_nat (j := 0) rfl, fun z => absurd z (by decide)⟩
/-- between two turns of the law -/
structure WI (K : PySem.W.Frag) (a x d wd : Addr) (ns : List Int) (i : Nat) (H : Hp) (B : Bk) (lo : Addr) (W : Bk) : Prop where
  sq : Scr K H a lo (ns.map V.int)
  hB : BookAt K H x d B
  ok : BkOk B
  hW : WorldAt H wd lo W
  hE : Eqv B W
  len : B.ords.length ≤ i
theorem WI.same {K : PySem.W.Frag} {a x d wd lo : Addr} {ns : List Int} {i : Nat} {H H' : Hp} {B W : Bk} (h : WI K a x d wd ns i H B lo W) (s : L2.Same H H') : WI K a x d wd ns i H' B lo W := ⟨h.sq.same s, h.hB.same s, h.ok, h.hW.same s, h.hE, h.len⟩
section
variable {P : Program} {w : World} {K : PySem.W.Frag} {mg : Str → Option Value} {base : Heap}
abbrev lawN : List Str := ["_law_script", "_law_book", "_law_world", "_law_k", "_law_deed_here", "_law_one"]
theorem scLaw : FnScope lawN ["_law_script"] (defScope s_law) := ⟨rfl, rfl, rfl, by decide +kernel, rfl, by decide +kernel, by decide +kernel⟩
theorem w_law (T : Tx K mg) : ∃ fd, Binds K fd ["_law_script"] [] ∧ FunD K "law" "law" (defArgs s_law) (defBody s_law) (defScope s_law) [] [] (He.ga K "law") fd ∧ ∀ base, FnOk P w K mg base CX0 7 (He.ga K "law") fd ["_law_script"] (spLaw K) := by
  refine okL T.f_law scLaw (fun _ _ _ _ _ _ us hl => match us, hl with | [_], _ => rfl) (fun vs H Q E h => ?_) (fun base cdv A outer s H vs Q E hr h => ?_)
  · obtain ⟨a, ns, rfl, _⟩ := h
    rfl
  · obtain ⟨a, ns, rfl, hns, hs, k⟩ := h
    have GB : Cn P w K mg base CX0 1 "Book" ["self"] (spBInit K) := w_B_init T
    have GN : Fn P w K mg base CX0 1 "_law_new" [] (spWNew K) := w_l_new T
    have GM : Fn P w K mg base CX0 2 "_law_mix" ["_law_script", "_law_k"] (spMix K) := w_l_mix T
    have GD : Fn P w K mg base CX0 4 "_law_deed" ["_law_script", "_law_k"] (spLDeed K) := w_l_deed T
    have GA : Fn P w K mg base CX0 6 "_law_asked" ["_law_book", "_law_deed_here"] (spAsked K) := w_l_asked T
    have GF : Fn P w K mg base CX0 1 "_law_find" ["_law_world", "_law_number"] (spFind K) := w_l_find T
    have GW : Fn P w K mg base CX0 6 "_law_done" ["_law_world", "_law_deed_here"] (spWDone K) := w_l_done T
    have GI : Fn P w K mg base CX0 1 "_law_is" ["_law_found", "_law_due"] (spWIs K) := w_l_is T
    have GS : Fn P w K mg base CX0 5 "_law_same" ["_law_book", "_law_world"] (spSame K) := w_l_same T
    have hr1 := hr.mono (j := 1) (by decide)
    have hr2 := hr.mono (j := 2) (by decide)
    have hr4 := hr.mono (j := 4) (by decide)
    have hr5 := hr.mono (j := 5) (by decide)
    have hu1 := hu_of hr
    refine ⟨_, pss_cons (ps_set (i := 1) scLaw.nd rfl (Or.inl rfl) (pe_cn0 GB hr2 rfl pass0))
      (pss_cons (ps_set (i := 2) scLaw.nd rfl (Or.inl rfl) (pe_fn0 GN hr1 rfl pass0))
      (pss_cons (ps_for PassesOwn.never rfl (pi_range1 rfl T.z_range (pa_cons (pe_op op_mod (pe_fn GM hr2 rfl pass0 (pa_cons (pv 0) (pa_cons pe_int pa_nil))) pe_int) pa_nil)) (pg_name (i := 3) scLaw.nd rfl (Or.inl rfl))
        (pss_cons (ps_set (i := 4) scLaw.nd rfl (Or.inl rfl) (pe_fn GD hr4 rfl pass0 (pa_cons (pv 0) (pa_cons (pe_op op_add pe_int (pe_op op_mul pe_int (pv 3))) pa_nil))))
        (pss_cons (ps_mid (ps_set (i := 5) scLaw.nd rfl (Or.inl rfl) (pe_ifExp (pt_cmpR op_eq (pe_ix (r := rIx K) ix_seq (pv 4) pe_int (fun _ _ => rfl)) pe_str (nomark _)) (pe_fn GF hr1 rfl pass0 (pa_cons (pv 2) (pa_cons (pe_ix (r := rIx K) ix_seq (pv 4) pe_int (fun _ _ => rfl)) pa_nil))) pe_non)))
        (pss_cons (ps_mid (ps_if (PW.pt (pw_and (pt_cmp (pc_notN (pv 5))) (pw_and1 (pt_cmpR op_eq (pe_op op_mod (pe_fn GM hr2 rfl pass0 (pa_cons (pv 0) (pa_cons (pe_op op_sub pe_int (pv 3)) pa_nil))) pe_int) pe_int (nomark _)))))
          (pss_one (ps_set (i := 4) scLaw.nd rfl (Or.inl rfl) (pe_tup (pa_cons pe_str (pa_cons (pe_ix (r := rIx K) ix_seq (pv 4) pe_int (fun _ _ => rfl)) (pa_cons (pe_dget hu1 (pv 5) pe_str (fun _ _ => rfl)) pa_nil)))))) pss_nil))
        (pss_one (ps_if (PW.pt (pw_or (pt_not (pt_val (pe_fn GI hr1 rfl pass0 (pa_cons (pe_lock (pe_fn GA hr rfl pass0 (pa_cons (pv 1) (pa_cons (pv 4) pa_nil)))) (pa_cons (pe_fn GW hr rfl pass0 (pa_cons (pv 2) (pa_cons (pv 4) pa_nil))) pa_nil)))))
          (pw_or1 (pt_not (pt_val (pe_fn GS hr5 rfl pass0 (pa_cons (pv 1) (pa_cons (pv 2) pa_nil)))))))) (pss_one (ps_ret pe_bl)) pss_nil))))))
      (pss_one (ps_ret pe_bl)))), ?_⟩
    refine fun x dx nx ndx nex => ⟨x, dx, rfl, upd_same, fun d H0 hd hB0 sb => ⟨rfl, ?_⟩⟩
    have sm : L2.Same H H0 := L2.Same.made nx ndx (fun b o e n => sb b o n e)
    refine ⟨rfl, fun wd lo0 H1 hW1 s1 nwd nlo => ?_⟩
    have sq0 := same_seqL sm hs
    have I0 : WI K a x d wd ns 0 H1 emptyB lo0 emptyB := ⟨Scr.of sq0 s1 nlo, hB0.same s1, ⟨nofun, List.nodup_nil, List.nodup_nil, Int.le_refl 0, Int.le_refl 0⟩, hW1, ⟨.nil, rfl, rfl, rfl, rfl, rfl⟩, Nat.le_refl 0⟩
    refine ⟨_, rfl, a, ns, 0, rfl, I0.sq.sq, by decide, fun n n0 n1 => ⟨_, _, rfl, rfl, pos_lit (by decide), n % 25, rfl, by omega, by omega, ?_⟩⟩
    refine for_range (fun i σ H' => ∃ (B W : Bk) (lo : Addr) (v3 v4 v5 : Option V), σ = [some (.ref a), some (.ref x), some (.ref wd), v3, v4, v5] ∧ WI K a x d wd ns i H' B lo W) ⟨emptyB, emptyB, lo0, none, none, none, rfl, I0⟩ ?_ ?_
    · rintro i σ H2 hi ⟨B, W, lo, v3, v4, v5, rfl, I⟩
      have hi25 : i < 25 := by omega
      refine ⟨_, rfl, _, rfl, _, _, rfl, rfl, .inl ⟨by decide, by decide⟩, _, _, rfl, rfl, a, ns, _, rfl, I.sq.sq, by omega, fun dd0 xs0 t0 H3 s3 had0 htn0 ht0 => ?_⟩
      have I3 := I.same s3
      have hlW : W.ords.length ≤ 900 := by
        have := I.len
        have := I.hE.len
        omega
      obtain ⟨wrd, ew, hch⟩ := Deed.word had0
      refine ⟨fun σ' H' => L2.Same H3 H' ∧ ∃ v5, σ' = [some (.ref a), some (.ref x), some (.ref wd), some (.int (0 + i)), some (.ref t0), some v5] ∧ (v5 = .non ∨ ∃ n m o, xs0 = [.str "change", .int n, .int m] ∧ o ∈ W.ords ∧ v5 = .ref o.ad), ?_, ?_⟩
      · refine dix rfl ht0 ew ⟨rfl, _, rfl, ?_⟩
        by_cases cw : wrd = "change"
        · obtain ⟨n, m, ex⟩ := hch cw
          refine ifY (by rw [cw]) ⟨_, rfl, dix rfl ht0 (v := .int n) (by rw [ex]; rfl) ⟨wd, lo, W, n, rfl, I3.hW, by omega, fun o eo H4 s4 => ⟨s4, _, rfl, .inr ⟨n, m, o, ex, (find_some eo).1, rfl⟩⟩, fun eo H4 s4 => ⟨s4, _, rfl, .inl rfl⟩⟩⟩
        · exact ifN (fun z => cw (V.str.inj z)) ⟨L2.Same.refl _, _, rfl, .inl rfl⟩
      rintro σ' H4 ⟨s4, v5', rfl, hv5⟩
      have I4 := I3.same s4
      have ht4 := s4 _ _ ht0
      refine ⟨fun σ' H' => L2.Same H4 H' ∧ ∃ (dd : Deed) (xs : List V) (t : Addr), dd.At xs ∧ H' t = some (.tup xs) ∧ σ' = [some (.ref a), some (.ref x), some (.ref wd), some (.int (0 + i)), some (.ref t), some v5'], ?_, ?_⟩
      · refine ⟨_, rfl, _, rfl, ?_⟩
        rcases hv5 with rfl | ⟨n, m, o, ex, ho, rfl⟩
        · exact iteF (iteF ⟨L2.Same.refl _, dd0, xs0, t0, had0, ht4, rfl⟩)
        · subst ex
          refine iteT ⟨_, rfl, _, rfl, _, _, rfl, rfl, a, ns, _, rfl, I4.sq.sq, by omega, fun q q0 q1 => ⟨_, _, rfl, rfl, pos_lit (by decide), rfl, _, rfl, ite2 (fun _ => ?_) (fun _ => ⟨L2.Same.refl _, dd0, _, t0, had0, ht4, rfl⟩)⟩⟩
          refine dix rfl ht4 (v := .int n) rfl (wget rfl (I4.hW.os o ho) (v := .int o.rest) rfl ⟨by show 3 ≤ sizeLine; decide, fun t2 ht2 => ⟨same_new ht2, .change n o.rest, _, t2, rfl, upd_same, rfl⟩⟩)
      rintro σ' H5 ⟨s5, dd, xs, t, had, ht, rfl⟩
      have I5 := I4.same s5
      have hW5 := I5.hW
      have ndl : d ≠ lo := ne_of I5.hB.dc hW5.ls (by intro z; cases z)
      have ntl : t ≠ lo := ne_of ht hW5.ls (by intro z; cases z)
      have hBL : ∀ od : Obj, BookAt K (upd H5 lo (.frz od (.lst (W.ords.map refO)))) x d B := fun od => I5.hB.but sb_upd (let ⟨_, e⟩ := I5.hB.bk; ne_of e hW5.ls (by intro z; cases z)) ndl fun o ho => let ⟨_, e⟩ := I5.hB.os o ho; ne_of e hW5.ls (by intro z; cases z)
      refine ⟨lo, _, hW5.ls, trivial, fun od => ⟨_, rfl, _, rfl, x, d, t, B, dd, xs, rfl, hBL od, I5.ok, by have := I5.len; omega, by rw [upd_ne ntl]; exact ht, had, fun an B' H6 v di hB6 k6 av => ?_⟩⟩
      have hlo6 : H6 lo = some (.frz od (.lst (W.ords.map refO))) := k6 lo _ upd_same rfl ndl.symm
      have hBu : BookAt K (upd H6 lo (.lst (W.ords.map refO))) x d B' := hB6.but sb_upd (let ⟨_, e⟩ := hB6.bk; ne_of e hlo6 (by intro z; cases z)) ndl fun o ho => let ⟨_, e⟩ := hB6.os o ho; ne_of e hlo6 (by intro z; cases z)
      have kw : ∀ c u, H5 c = some u → isIns u = false → c ≠ d → c ≠ lo → upd H6 lo (.lst (W.ords.map refO)) c = some u := fun c u e i n1 n2 => by
        rw [upd_ne n2]
        exact k6 c u (by rw [upd_ne n2]; exact e) i n1
      have hWu : WorldAt (upd H6 lo (.lst (W.ords.map refO))) wd lo W := ⟨kw _ _ hW5.dc rfl (book_dct I5.hB hW5.dc).symm hW5.wl, upd_same, fun o ho => kw _ _ (hW5.os o ho) rfl (book_dct I5.hB (hW5.os o ho)).symm (hW5.lo_ ho).symm, hW5.nda⟩
      have htu := kw t _ ht rfl (ne_of ht I5.hB.dc (by intro z; cases z)) ntl
      have squ := I5.sq.locked I5.hB.dc k6
      refine ⟨hlo6, _, rfl, _, rfl, wd, lo, t, B, W, B', dd, xs, an, rfl, hWu, I5.ok, I5.hE, hlW, htu, had, di, fun lo7 W7 H7 u7 hW7 hE7 st7 av7 => ?_⟩
      have av' : an.At H7 v := Ans.keep av (fun t' xs' e => st7.tup0 hWu t' _ (by rw [upd_ne (ne_of e hlo6 (by intro z; cases z))]; exact e)) (fun r ys e => by
        have n := ne_of e hlo6 (by intro z; cases z)
        exact (st7.lst0 hWu (by rw [upd_ne n]; exact e) n).1)
      obtain ⟨ty, al⟩ := Alike.ans (K := K) av' av7
      have D := did_ok I5.ok di
      have hB7 := hBu.step hWu st7
      have hl7 : W7.ords.length ≤ 1000 := by
        have h1 := hE7.len
        have h2 := D.len
        have h3 := I5.len
        omega
      refine ⟨_, _, _, ty, rfl, al, true, rfl, iteF ?_⟩
      refine ⟨_, rfl, _, rfl, x, d, wd, lo7, B', W7, rfl, hB7, D.ok, hW7, hE7, hl7, fun H8 s8 => ⟨true, rfl, iteF ?_⟩⟩
      exact ⟨B', W7, lo7, _, _, _, rfl, ⟨(squ.step hWu st7).same s8, hB7.same s8, D.ok, hW7.same s8, hE7, Nat.le_trans D.len (Nat.succ_le_succ I5.len)⟩⟩
    · rintro σ H2 ⟨B, W, lo, v3, v4, v5, rfl, I⟩
      exact k _
end
end FB

set_option maxRecDepth 100000
set_option maxHeartbeats 0
namespace FB
open PySem PySem.Spec PyProof.Rows L2
def d_O_init : He.DefD := ⟨("Order", some "__init__"), "__init__", "Order.__init__", defArgs s_O_init, defBody s_O_init, defScope s_O_init, [], []⟩
def d_O_show : He.DefD := ⟨("Order", some "show"), "show", "Order.show", defArgs s_O_show, defBody s_O_show, defScope s_O_show, [], []⟩
def d_O_suits : He.DefD := ⟨("Order", some "suits"), "suits", "Order.suits", defArgs s_O_suits, defBody s_O_suits, defScope s_O_suits, [], []⟩
def d_O_rank : He.DefD := ⟨("Order", some "rank"), "rank", "Order.rank", defArgs s_O_rank, defBody s_O_rank, defScope s_O_rank, [], []⟩
def d_other_side : He.DefD := ⟨("other_side", none), "other_side", "other_side", defArgs s_other_side, defBody s_other_side, defScope s_other_side, [], []⟩
def d_is_count : He.DefD := ⟨("is_count", none), "is_count", "is_count", defArgs s_is_count, defBody s_is_count, defScope s_is_count, [], []⟩
def d_look_order : He.DefD := ⟨("look_order", none), "look_order", "look_order", defArgs s_look_order, defBody s_look_order, defScope s_look_order, [], []⟩
def d_can_fill : He.DefD := ⟨("can_fill", none), "can_fill", "can_fill", defArgs s_can_fill, defBody s_can_fill, defScope s_can_fill, [], []⟩
def d_meet : He.DefD := ⟨("meet", none), "meet", "meet", defArgs s_meet, defBody s_meet, defScope s_meet, [], []⟩
def d_matched : He.DefD := ⟨("matched", none), "matched", "matched", defArgs s_matched, defBody s_matched, defScope s_matched, [], []⟩
def d_place : He.DefD := ⟨("place", none), "place", "place", defArgs s_place, defBody s_place, defScope s_place, [], []⟩
def d_cancel : He.DefD := ⟨("cancel", none), "cancel", "cancel", defArgs s_cancel, defBody s_cancel, defScope s_cancel, [], []⟩
def d_change : He.DefD := ⟨("change", none), "change", "change", defArgs s_change, defBody s_change, defScope s_change, [], []⟩
def d_B_init : He.DefD := ⟨("Book", some "__init__"), "__init__", "Book.__init__", defArgs s_B_init, defBody s_B_init, defScope s_B_init, [], []⟩
def d_B_row : He.DefD := ⟨("Book", some "row"), "row", "Book.row", defArgs s_B_row, defBody s_B_row, defScope s_B_row, [], []⟩
def d_B_resting : He.DefD := ⟨("Book", some "resting"), "resting", "Book.resting", defArgs s_B_resting, defBody s_B_resting, defScope s_B_resting, [], []⟩
def d_B_depth : He.DefD := ⟨("Book", some "depth"), "depth", "Book.depth", defArgs s_B_depth, defBody s_B_depth, defScope s_B_depth, [], []⟩
def d_B_need : He.DefD := ⟨("Book", some "need"), "need", "Book.need", defArgs s_B_need, defBody s_B_need, defScope s_B_need, [], []⟩
def d_B_left : He.DefD := ⟨("Book", some "left"), "left", "Book.left", defArgs s_B_left, defBody s_B_left, defScope s_B_left, [], []⟩
def d_B_shown : He.DefD := ⟨("Book", some "shown"), "shown", "Book.shown", defArgs s_B_shown, defBody s_B_shown, defScope s_B_shown, [], []⟩
def d_B_last : He.DefD := ⟨("Book", some "last"), "last", "Book.last", defArgs s_B_last, defBody s_B_last, defScope s_B_last, [], []⟩
def d_B_volume : He.DefD := ⟨("Book", some "volume"), "volume", "Book.volume", defArgs s_B_volume, defBody s_B_volume, defScope s_B_volume, [], []⟩
def d_B_is_calling : He.DefD := ⟨("Book", some "is_calling"), "is_calling", "Book.is_calling", defArgs s_B_is_calling, defBody s_B_is_calling, defScope s_B_is_calling, [], []⟩
def d_B_put : He.DefD := ⟨("Book", some "put"), "put", "Book.put", defArgs s_B_put, defBody s_B_put, defScope s_B_put, [], []⟩
def d_B_trade : He.DefD := ⟨("Book", some "trade"), "trade", "Book.trade", defArgs s_B_trade, defBody s_B_trade, defScope s_B_trade, [], []⟩
def d_call : He.DefD := ⟨("call", none), "call", "call", defArgs s_call, defBody s_call, defScope s_call, [], []⟩
def d_wanted : He.DefD := ⟨("wanted", none), "wanted", "wanted", defArgs s_wanted, defBody s_wanted, defScope s_wanted, [], []⟩
def d_call_price : He.DefD := ⟨("call_price", none), "call_price", "call_price", defArgs s_call_price, defBody s_call_price, defScope s_call_price, [], []⟩
def d_uncross : He.DefD := ⟨("uncross", none), "uncross", "uncross", defArgs s_uncross, defBody s_uncross, defScope s_uncross, [], []⟩
def d_l_cell : He.DefD := ⟨("_law_cell", none), "_law_cell", "_law_cell", defArgs s_l_cell, defBody s_l_cell, defScope s_l_cell, [], []⟩
def d_l_mix : He.DefD := ⟨("_law_mix", none), "_law_mix", "_law_mix", defArgs s_l_mix, defBody s_l_mix, defScope s_l_mix, [], []⟩
def d_l_new : He.DefD := ⟨("_law_new", none), "_law_new", "_law_new", defArgs s_l_new, defBody s_l_new, defScope s_l_new, [], []⟩
def d_l_first : He.DefD := ⟨("_law_first", none), "_law_first", "_law_first", defArgs s_l_first, defBody s_l_first, defScope s_l_first, [], []⟩
def d_l_side : He.DefD := ⟨("_law_side", none), "_law_side", "_law_side", defArgs s_l_side, defBody s_l_side, defScope s_l_side, [], []⟩
def d_l_put : He.DefD := ⟨("_law_put", none), "_law_put", "_law_put", defArgs s_l_put, defBody s_l_put, defScope s_l_put, [], []⟩
def d_l_show : He.DefD := ⟨("_law_show", none), "_law_show", "_law_show", defArgs s_l_show, defBody s_l_show, defScope s_l_show, [], []⟩
def d_l_gone : He.DefD := ⟨("_law_gone", none), "_law_gone", "_law_gone", defArgs s_l_gone, defBody s_l_gone, defScope s_l_gone, [], []⟩
def d_l_suits : He.DefD := ⟨("_law_suits", none), "_law_suits", "_law_suits", defArgs s_l_suits, defBody s_l_suits, defScope s_l_suits, [], []⟩
def d_l_find : He.DefD := ⟨("_law_find", none), "_law_find", "_law_find", defArgs s_l_find, defBody s_l_find, defScope s_l_find, [], []⟩
def d_l_good : He.DefD := ⟨("_law_good", none), "_law_good", "_law_good", defArgs s_l_good, defBody s_l_good, defScope s_l_good, [], []⟩
def d_l_meet : He.DefD := ⟨("_law_meet", none), "_law_meet", "_law_meet", defArgs s_l_meet, defBody s_l_meet, defScope s_l_meet, [], []⟩
def d_l_place : He.DefD := ⟨("_law_place", none), "_law_place", "_law_place", defArgs s_l_place, defBody s_l_place, defScope s_l_place, [], []⟩
def d_l_cancel : He.DefD := ⟨("_law_cancel", none), "_law_cancel", "_law_cancel", defArgs s_l_cancel, defBody s_l_cancel, defScope s_l_cancel, [], []⟩
def d_l_change : He.DefD := ⟨("_law_change", none), "_law_change", "_law_change", defArgs s_l_change, defBody s_l_change, defScope s_l_change, [], []⟩
def d_l_wanted : He.DefD := ⟨("_law_wanted", none), "_law_wanted", "_law_wanted", defArgs s_l_wanted, defBody s_l_wanted, defScope s_l_wanted, [], []⟩
def d_l_call_price : He.DefD := ⟨("_law_call_price", none), "_law_call_price", "_law_call_price", defArgs s_l_call_price, defBody s_l_call_price, defScope s_l_call_price, [], []⟩
def d_l_uncross : He.DefD := ⟨("_law_uncross", none), "_law_uncross", "_law_uncross", defArgs s_l_uncross, defBody s_l_uncross, defScope s_l_uncross, [], []⟩
def d_l_call : He.DefD := ⟨("_law_call", none), "_law_call", "_law_call", defArgs s_l_call, defBody s_l_call, defScope s_l_call, [], []⟩
def d_l_price : He.DefD := ⟨("_law_price", none), "_law_price", "_law_price", defArgs s_l_price, defBody s_l_price, defScope s_l_price, [], []⟩
def d_l_deed : He.DefD := ⟨("_law_deed", none), "_law_deed", "_law_deed", defArgs s_l_deed, defBody s_l_deed, defScope s_l_deed, [], []⟩
def d_l_done : He.DefD := ⟨("_law_done", none), "_law_done", "_law_done", defArgs s_l_done, defBody s_l_done, defScope s_l_done, [], []⟩
def d_l_asked : He.DefD := ⟨("_law_asked", none), "_law_asked", "_law_asked", defArgs s_l_asked, defBody s_l_asked, defScope s_l_asked, [], []⟩
def d_l_is : He.DefD := ⟨("_law_is", none), "_law_is", "_law_is", defArgs s_l_is, defBody s_l_is, defScope s_l_is, [], []⟩
def d_l_same : He.DefD := ⟨("_law_same", none), "_law_same", "_law_same", defArgs s_l_same, defBody s_l_same, defScope s_l_same, [], []⟩
def d_law : He.DefD := ⟨("law", none), "law", "law", defArgs s_law, defBody s_law, defScope s_law, [], []⟩
def hfn : List He.DefD := [d_O_init, d_O_show, d_O_suits, d_O_rank, d_other_side, d_is_count, d_look_order, d_can_fill, d_meet, d_matched, d_place, d_cancel, d_change, d_B_init, d_B_row, d_B_resting, d_B_depth, d_B_need, d_B_left, d_B_shown, d_B_last, d_B_volume, d_B_is_calling, d_B_put, d_B_trade, d_call, d_wanted, d_call_price, d_uncross, d_l_cell, d_l_mix, d_l_new, d_l_first, d_l_side, d_l_put, d_l_show, d_l_gone, d_l_suits, d_l_find, d_l_good, d_l_meet, d_l_place, d_l_cancel, d_l_change, d_l_wanted, d_l_call_price, d_l_uncross, d_l_call, d_l_price, d_l_deed, d_l_done, d_l_asked, d_l_is, d_l_same, d_law]
def hfa0 : List He.Fa := [.glo "BadOrder", .glo "Book", .glo "BookError", .glo "NotNow", .glo "NotThere", .glo "Order", .glo "_law_asked", .glo "_law_call", .glo "_law_call_price", .glo "_law_cancel", .glo "_law_cell", .glo "_law_change", .glo "_law_deed", .glo "_law_done", .glo "_law_find", .glo "_law_first", .glo "_law_gone", .glo "_law_good", .glo "_law_is", .glo "_law_meet", .glo "_law_mix", .glo "_law_new", .glo "_law_place", .glo "_law_price", .glo "_law_put", .glo "_law_same", .glo "_law_show", .glo "_law_side", .glo "_law_suits", .glo "_law_uncross"]
def hfa1 : List He.Fa := [.glo "_law_wanted", .glo "call", .glo "call_price", .glo "can_fill", .glo "cancel", .glo "change", .glo "is_count", .glo "law", .glo "look_order", .glo "matched", .glo "meet", .glo "other_side", .glo "place", .glo "uncross", .glo "wanted", .free "sorted", .free "sum", .free "min", .free "abs", .free "bool", .free "len", .free "range", .free "int", .free "isinstance", .free "tuple", .free "ValueError", .str "BUY" "buy", .str "SELL" "sell", .str "REST" "rest", .int "MOST_COUNT" 10000]
def hfa2 : List He.Fa := [.int "MOST_PRICE" 1000000000, .cls "Order", .mkr "Order", .noat "Order" "number", .noat "Order" "owner", .noat "Order" "side", .noat "Order" "price", .noat "Order" "rest", .noat "Order" "shows", .noat "Order" "part", .noat "Order" "place", .cls "Book", .mkr "Book", .noat "Book" "orders", .noat "Book" "many", .noat "Book" "places", .noat "Book" "price", .noat "Book" "traded", .noat "Book" "calling", .meth "Order" "show", .meth "Order" "suits", .meth "Order" "rank", .meth "Book" "row", .meth "Book" "resting", .meth "Book" "depth", .meth "Book" "need", .meth "Book" "left", .meth "Book" "shown", .meth "Book" "last", .meth "Book" "volume"]
def hfa3 : List He.Fa := [.meth "Book" "is_calling", .meth "Book" "put", .meth "Book" "trade", .exc "BadOrder", .exm "BadOrder" "BookError" true, .exc "NotThere", .exm "NotThere" "BookError" true, .exc "NotNow", .exm "NotNow" "BookError" true]
def hfa : List He.Fa := hfa0 ++ hfa1 ++ hfa2 ++ hfa3
def hxb (K : PySem.W.Frag) : List Bool := [He.tupB K "WAYS" [.str "rest", .str "now", .str "whole"],
  (He.Fa.glo "WAYS").ok K,
  excCB K (He.ga K "BadOrder"),
  decide (PySem.W.kitOne K (.ref (He.ga K "BadOrder")) (.ref (He.ga K "BadOrder")) = some true),
  decide (PySem.W.kitOne K (.ref (He.ga K "BadOrder")) (.ref (He.ga K "NotThere")) = some false),
  decide (PySem.W.kitOne K (.ref (He.ga K "BadOrder")) (.ref (He.ga K "NotNow")) = some false),
  decide (PySem.W.kitOne K (.ref (He.ga K "BadOrder")) (.type "ValueError") = some true),
  excCB K (He.ga K "NotThere"),
  decide (PySem.W.kitOne K (.ref (He.ga K "NotThere")) (.ref (He.ga K "BadOrder")) = some false),
  decide (PySem.W.kitOne K (.ref (He.ga K "NotThere")) (.ref (He.ga K "NotThere")) = some true),
  decide (PySem.W.kitOne K (.ref (He.ga K "NotThere")) (.ref (He.ga K "NotNow")) = some false),
  decide (PySem.W.kitOne K (.ref (He.ga K "NotThere")) (.type "ValueError") = some true),
  excCB K (He.ga K "NotNow"),
  decide (PySem.W.kitOne K (.ref (He.ga K "NotNow")) (.ref (He.ga K "BadOrder")) = some false),
  decide (PySem.W.kitOne K (.ref (He.ga K "NotNow")) (.ref (He.ga K "NotThere")) = some false),
  decide (PySem.W.kitOne K (.ref (He.ga K "NotNow")) (.ref (He.ga K "NotNow")) = some true),
  decide (PySem.W.kitOne K (.ref (He.ga K "NotNow")) (.type "ValueError") = some true)]
def hob (s : PySem.W.SharedT) : Bool × He.AlD := obsX 4 hfa hfn hxb (HandSHeadRun.getT s)
theorem hob_eq (s : PySem.W.SharedT) : hob s = (hookX 4 hfa hfn hxb).obs s.abs := obsX_eq (HandSHeadRun.getT_eq s)
def hloose0 : List Str := ["_wall", "BookError", "BadOrder", "NotThere", "NotNow", "BUY", "SELL", "REST", "WAYS", "MOST_COUNT", "MOST_PRICE", "Order", "other_side", "is_count", "look_order", "can_fill", "meet", "matched", "place", "cancel", "change", "Book", "call", "wanted", "call_price", "uncross", "_law_cell", "_law_mix", "_law_new", "_law_first"]
def hloose1 : List Str := ["_law_side", "_law_put", "_law_show", "_law_gone", "_law_suits", "_law_find", "_law_good", "_law_meet", "_law_place", "_law_cancel", "_law_change", "_law_wanted", "_law_call_price", "_law_uncross", "_law_call", "_law_price", "_law_deed", "_law_done", "_law_asked", "_law_is", "_law_same"]
def hloose : List Str := hloose0 ++ hloose1
theorem hrun (w : World) : HandSHeadRun.RunEq (PySem.W.OpenLaw.row PySem.Challenge.rw_fairbook_k10_book) (PySem.W.view (PySem.W.OpenLaw.row PySem.Challenge.rw_fairbook_k10_book).prog [57]) (hookX 4 hfa hfn hxb) hob 4000 hloose w := by
  intro os
  kernel_rfl
theorem tx_of {K : PySem.W.Frag} {h : Heap} {mg : Str → Option Value} (X : K.In h) (G : h.Ns mainGlobals mg) (c : He.SaysD hfa hfn K) (cx : (hxb K).all id = true) : Tx K mg where
  f_O_init := c.def_ 0 (d := d_O_init) rfl
  f_O_show := c.def_ 1 (d := d_O_show) rfl
  f_O_suits := c.def_ 2 (d := d_O_suits) rfl
  f_O_rank := c.def_ 3 (d := d_O_rank) rfl
  f_other_side := c.def_ 4 (d := d_other_side) rfl
  f_is_count := c.def_ 5 (d := d_is_count) rfl
  f_look_order := c.def_ 6 (d := d_look_order) rfl
  f_can_fill := c.def_ 7 (d := d_can_fill) rfl
  f_meet := c.def_ 8 (d := d_meet) rfl
  f_matched := c.def_ 9 (d := d_matched) rfl
  f_place := c.def_ 10 (d := d_place) rfl
  f_cancel := c.def_ 11 (d := d_cancel) rfl
  f_change := c.def_ 12 (d := d_change) rfl
  f_B_init := c.def_ 13 (d := d_B_init) rfl
  f_B_row := c.def_ 14 (d := d_B_row) rfl
  f_B_resting := c.def_ 15 (d := d_B_resting) rfl
  f_B_depth := c.def_ 16 (d := d_B_depth) rfl
  f_B_need := c.def_ 17 (d := d_B_need) rfl
  f_B_left := c.def_ 18 (d := d_B_left) rfl
  f_B_shown := c.def_ 19 (d := d_B_shown) rfl
  f_B_last := c.def_ 20 (d := d_B_last) rfl
  f_B_volume := c.def_ 21 (d := d_B_volume) rfl
  f_B_is_calling := c.def_ 22 (d := d_B_is_calling) rfl
  f_B_put := c.def_ 23 (d := d_B_put) rfl
  f_B_trade := c.def_ 24 (d := d_B_trade) rfl
  f_call := c.def_ 25 (d := d_call) rfl
  f_wanted := c.def_ 26 (d := d_wanted) rfl
  f_call_price := c.def_ 27 (d := d_call_price) rfl
  f_uncross := c.def_ 28 (d := d_uncross) rfl
  f_l_cell := c.def_ 29 (d := d_l_cell) rfl
  f_l_mix := c.def_ 30 (d := d_l_mix) rfl
  f_l_new := c.def_ 31 (d := d_l_new) rfl
  f_l_first := c.def_ 32 (d := d_l_first) rfl
  f_l_side := c.def_ 33 (d := d_l_side) rfl
  f_l_put := c.def_ 34 (d := d_l_put) rfl
  f_l_show := c.def_ 35 (d := d_l_show) rfl
  f_l_gone := c.def_ 36 (d := d_l_gone) rfl
  f_l_suits := c.def_ 37 (d := d_l_suits) rfl
  f_l_find := c.def_ 38 (d := d_l_find) rfl
  f_l_good := c.def_ 39 (d := d_l_good) rfl
  f_l_meet := c.def_ 40 (d := d_l_meet) rfl
  f_l_place := c.def_ 41 (d := d_l_place) rfl
  f_l_cancel := c.def_ 42 (d := d_l_cancel) rfl
  f_l_change := c.def_ 43 (d := d_l_change) rfl
  f_l_wanted := c.def_ 44 (d := d_l_wanted) rfl
  f_l_call_price := c.def_ 45 (d := d_l_call_price) rfl
  f_l_uncross := c.def_ 46 (d := d_l_uncross) rfl
  f_l_call := c.def_ 47 (d := d_l_call) rfl
  f_l_price := c.def_ 48 (d := d_l_price) rfl
  f_l_deed := c.def_ 49 (d := d_l_deed) rfl
  f_l_done := c.def_ 50 (d := d_l_done) rfl
  f_l_asked := c.def_ 51 (d := d_l_asked) rfl
  f_l_is := c.def_ 52 (d := d_l_is) rfl
  f_l_same := c.def_ 53 (d := d_l_same) rfl
  f_law := c.def_ 54 (d := d_law) rfl
  g_BadOrder := He.glo_ok X G (c.fact 0 (f := .glo "BadOrder") rfl)
  g_Book := He.glo_ok X G (c.fact 1 (f := .glo "Book") rfl)
  g_BookError := He.glo_ok X G (c.fact 2 (f := .glo "BookError") rfl)
  g_NotNow := He.glo_ok X G (c.fact 3 (f := .glo "NotNow") rfl)
  g_NotThere := He.glo_ok X G (c.fact 4 (f := .glo "NotThere") rfl)
  g_Order := He.glo_ok X G (c.fact 5 (f := .glo "Order") rfl)
  g_l_asked := He.glo_ok X G (c.fact 6 (f := .glo "_law_asked") rfl)
  g_l_call := He.glo_ok X G (c.fact 7 (f := .glo "_law_call") rfl)
  g_l_call_price := He.glo_ok X G (c.fact 8 (f := .glo "_law_call_price") rfl)
  g_l_cancel := He.glo_ok X G (c.fact 9 (f := .glo "_law_cancel") rfl)
  g_l_cell := He.glo_ok X G (c.fact 10 (f := .glo "_law_cell") rfl)
  g_l_change := He.glo_ok X G (c.fact 11 (f := .glo "_law_change") rfl)
  g_l_deed := He.glo_ok X G (c.fact 12 (f := .glo "_law_deed") rfl)
  g_l_done := He.glo_ok X G (c.fact 13 (f := .glo "_law_done") rfl)
  g_l_find := He.glo_ok X G (c.fact 14 (f := .glo "_law_find") rfl)
  g_l_first := He.glo_ok X G (c.fact 15 (f := .glo "_law_first") rfl)
  g_l_gone := He.glo_ok X G (c.fact 16 (f := .glo "_law_gone") rfl)
  g_l_good := He.glo_ok X G (c.fact 17 (f := .glo "_law_good") rfl)
  g_l_is := He.glo_ok X G (c.fact 18 (f := .glo "_law_is") rfl)
  g_l_meet := He.glo_ok X G (c.fact 19 (f := .glo "_law_meet") rfl)
  g_l_mix := He.glo_ok X G (c.fact 20 (f := .glo "_law_mix") rfl)
  g_l_new := He.glo_ok X G (c.fact 21 (f := .glo "_law_new") rfl)
  g_l_place := He.glo_ok X G (c.fact 22 (f := .glo "_law_place") rfl)
  g_l_price := He.glo_ok X G (c.fact 23 (f := .glo "_law_price") rfl)
  g_l_put := He.glo_ok X G (c.fact 24 (f := .glo "_law_put") rfl)
  g_l_same := He.glo_ok X G (c.fact 25 (f := .glo "_law_same") rfl)
  g_l_show := He.glo_ok X G (c.fact 26 (f := .glo "_law_show") rfl)
  g_l_side := He.glo_ok X G (c.fact 27 (f := .glo "_law_side") rfl)
  g_l_suits := He.glo_ok X G (c.fact 28 (f := .glo "_law_suits") rfl)
  g_l_uncross := He.glo_ok X G (c.fact 29 (f := .glo "_law_uncross") rfl)
  g_l_wanted := He.glo_ok X G (c.fact 30 (f := .glo "_law_wanted") rfl)
  g_call := He.glo_ok X G (c.fact 31 (f := .glo "call") rfl)
  g_call_price := He.glo_ok X G (c.fact 32 (f := .glo "call_price") rfl)
  g_can_fill := He.glo_ok X G (c.fact 33 (f := .glo "can_fill") rfl)
  g_cancel := He.glo_ok X G (c.fact 34 (f := .glo "cancel") rfl)
  g_change := He.glo_ok X G (c.fact 35 (f := .glo "change") rfl)
  g_is_count := He.glo_ok X G (c.fact 36 (f := .glo "is_count") rfl)
  g_law := He.glo_ok X G (c.fact 37 (f := .glo "law") rfl)
  g_look_order := He.glo_ok X G (c.fact 38 (f := .glo "look_order") rfl)
  g_matched := He.glo_ok X G (c.fact 39 (f := .glo "matched") rfl)
  g_meet := He.glo_ok X G (c.fact 40 (f := .glo "meet") rfl)
  g_other_side := He.glo_ok X G (c.fact 41 (f := .glo "other_side") rfl)
  g_place := He.glo_ok X G (c.fact 42 (f := .glo "place") rfl)
  g_uncross := He.glo_ok X G (c.fact 43 (f := .glo "uncross") rfl)
  g_wanted := He.glo_ok X G (c.fact 44 (f := .glo "wanted") rfl)
  z_sorted := He.free_ok X G (c.fact 45 (f := .free "sorted") rfl)
  z_sum := He.free_ok X G (c.fact 46 (f := .free "sum") rfl)
  z_min := He.free_ok X G (c.fact 47 (f := .free "min") rfl)
  z_abs := He.free_ok X G (c.fact 48 (f := .free "abs") rfl)
  z_bool := He.free_ok X G (c.fact 49 (f := .free "bool") rfl)
  z_len := He.free_ok X G (c.fact 50 (f := .free "len") rfl)
  z_range := He.free_ok X G (c.fact 51 (f := .free "range") rfl)
  z_int := He.free_ok X G (c.fact 52 (f := .free "int") rfl)
  z_isinstance := He.free_ok X G (c.fact 53 (f := .free "isinstance") rfl)
  z_tuple := He.free_ok X G (c.fact 54 (f := .free "tuple") rfl)
  z_ValueError := He.free_ok X G (c.fact 55 (f := .free "ValueError") rfl)
  k_BUY := He.str_ok X G (c.fact 56 (f := .str "BUY" "buy") rfl)
  k_SELL := He.str_ok X G (c.fact 57 (f := .str "SELL" "sell") rfl)
  k_REST := He.str_ok X G (c.fact 58 (f := .str "REST" "rest") rfl)
  k_MOST_COUNT := He.int_ok X G (c.fact 59 (f := .int "MOST_COUNT" 10000) rfl)
  k_MOST_PRICE := He.int_ok X G (c.fact 60 (f := .int "MOST_PRICE" 1000000000) rfl)
  clO := He.cls_ok (c.fact 61 (f := .cls "Order") rfl)
  mkO := He.mkr_ok (c.fact 62 (f := .mkr "Order") rfl)
  nO_number := He.noat_ok (c.fact 63 (f := .noat "Order" "number") rfl)
  nO_owner := He.noat_ok (c.fact 64 (f := .noat "Order" "owner") rfl)
  nO_side := He.noat_ok (c.fact 65 (f := .noat "Order" "side") rfl)
  nO_price := He.noat_ok (c.fact 66 (f := .noat "Order" "price") rfl)
  nO_rest := He.noat_ok (c.fact 67 (f := .noat "Order" "rest") rfl)
  nO_shows := He.noat_ok (c.fact 68 (f := .noat "Order" "shows") rfl)
  nO_part := He.noat_ok (c.fact 69 (f := .noat "Order" "part") rfl)
  nO_place := He.noat_ok (c.fact 70 (f := .noat "Order" "place") rfl)
  clB := He.cls_ok (c.fact 71 (f := .cls "Book") rfl)
  mkB := He.mkr_ok (c.fact 72 (f := .mkr "Book") rfl)
  nB_orders := He.noat_ok (c.fact 73 (f := .noat "Book" "orders") rfl)
  nB_many := He.noat_ok (c.fact 74 (f := .noat "Book" "many") rfl)
  nB_places := He.noat_ok (c.fact 75 (f := .noat "Book" "places") rfl)
  nB_price := He.noat_ok (c.fact 76 (f := .noat "Book" "price") rfl)
  nB_traded := He.noat_ok (c.fact 77 (f := .noat "Book" "traded") rfl)
  nB_calling := He.noat_ok (c.fact 78 (f := .noat "Book" "calling") rfl)
  m_O_show := He.meth_ok (c.fact 79 (f := .meth "Order" "show") rfl)
  m_O_suits := He.meth_ok (c.fact 80 (f := .meth "Order" "suits") rfl)
  m_O_rank := He.meth_ok (c.fact 81 (f := .meth "Order" "rank") rfl)
  m_B_row := He.meth_ok (c.fact 82 (f := .meth "Book" "row") rfl)
  m_B_resting := He.meth_ok (c.fact 83 (f := .meth "Book" "resting") rfl)
  m_B_depth := He.meth_ok (c.fact 84 (f := .meth "Book" "depth") rfl)
  m_B_need := He.meth_ok (c.fact 85 (f := .meth "Book" "need") rfl)
  m_B_left := He.meth_ok (c.fact 86 (f := .meth "Book" "left") rfl)
  m_B_shown := He.meth_ok (c.fact 87 (f := .meth "Book" "shown") rfl)
  m_B_last := He.meth_ok (c.fact 88 (f := .meth "Book" "last") rfl)
  m_B_volume := He.meth_ok (c.fact 89 (f := .meth "Book" "volume") rfl)
  m_B_is_calling := He.meth_ok (c.fact 90 (f := .meth "Book" "is_calling") rfl)
  m_B_put := He.meth_ok (c.fact 91 (f := .meth "Book" "put") rfl)
  m_B_trade := He.meth_ok (c.fact 92 (f := .meth "Book" "trade") rfl)
  e_BadOrder := He.exc_ok (c.fact 93 (f := .exc "BadOrder") rfl)
  x_BadOrder := He.exm_ok (c.fact 94 (f := .exm "BadOrder" "BookError" true) rfl)
  e_NotThere := He.exc_ok (c.fact 95 (f := .exc "NotThere") rfl)
  x_NotThere := He.exm_ok (c.fact 96 (f := .exm "NotThere" "BookError" true) rfl)
  e_NotNow := He.exc_ok (c.fact 97 (f := .exc "NotNow") rfl)
  x_NotNow := He.exm_ok (c.fact 98 (f := .exm "NotNow" "BookError" true) rfl)
  t_WAYS := fun H => He.tupB_ok (vs := [.str "rest", .str "now", .str "whole"]) (allB cx 0 (b := He.tupB K "WAYS" [.str "rest", .str "now", .str "whole"]) rfl) H
  g_WAYS := He.glo_ok X G (allB cx 1 (b := (He.Fa.glo "WAYS").ok K) rfl)
  i_BadOrder := excCB_ok (allB cx 2 (b := excCB K (He.ga K "BadOrder")) rfl)
  i_BadOrder_BadOrder := of_decide_eq_true (allB cx 3 (b := decide (PySem.W.kitOne K (.ref (He.ga K "BadOrder")) (.ref (He.ga K "BadOrder")) = some true)) rfl)
  i_BadOrder_NotThere := of_decide_eq_true (allB cx 4 (b := decide (PySem.W.kitOne K (.ref (He.ga K "BadOrder")) (.ref (He.ga K "NotThere")) = some false)) rfl)
  i_BadOrder_NotNow := of_decide_eq_true (allB cx 5 (b := decide (PySem.W.kitOne K (.ref (He.ga K "BadOrder")) (.ref (He.ga K "NotNow")) = some false)) rfl)
  i_BadOrder_VE := of_decide_eq_true (allB cx 6 (b := decide (PySem.W.kitOne K (.ref (He.ga K "BadOrder")) (.type "ValueError") = some true)) rfl)
  i_NotThere := excCB_ok (allB cx 7 (b := excCB K (He.ga K "NotThere")) rfl)
  i_NotThere_BadOrder := of_decide_eq_true (allB cx 8 (b := decide (PySem.W.kitOne K (.ref (He.ga K "NotThere")) (.ref (He.ga K "BadOrder")) = some false)) rfl)
  i_NotThere_NotThere := of_decide_eq_true (allB cx 9 (b := decide (PySem.W.kitOne K (.ref (He.ga K "NotThere")) (.ref (He.ga K "NotThere")) = some true)) rfl)
  i_NotThere_NotNow := of_decide_eq_true (allB cx 10 (b := decide (PySem.W.kitOne K (.ref (He.ga K "NotThere")) (.ref (He.ga K "NotNow")) = some false)) rfl)
  i_NotThere_VE := of_decide_eq_true (allB cx 11 (b := decide (PySem.W.kitOne K (.ref (He.ga K "NotThere")) (.type "ValueError") = some true)) rfl)
  i_NotNow := excCB_ok (allB cx 12 (b := excCB K (He.ga K "NotNow")) rfl)
  i_NotNow_BadOrder := of_decide_eq_true (allB cx 13 (b := decide (PySem.W.kitOne K (.ref (He.ga K "NotNow")) (.ref (He.ga K "BadOrder")) = some false)) rfl)
  i_NotNow_NotThere := of_decide_eq_true (allB cx 14 (b := decide (PySem.W.kitOne K (.ref (He.ga K "NotNow")) (.ref (He.ga K "NotThere")) = some false)) rfl)
  i_NotNow_NotNow := of_decide_eq_true (allB cx 15 (b := decide (PySem.W.kitOne K (.ref (He.ga K "NotNow")) (.ref (He.ga K "NotNow")) = some true)) rfl)
  i_NotNow_VE := of_decide_eq_true (allB cx 16 (b := decide (PySem.W.kitOne K (.ref (He.ga K "NotNow")) (.type "ValueError") = some true)) rfl)
end FB

set_option maxRecDepth 100000
open PySem PySem.W PySem.Calls PyProof.Rows FB
theorem PySem.Challenge.cw_fairbook_k10_book_holds : PySem.Challenge.rw_fairbook_k10_book.Holds := by
  w_on; o_law
  refine HandSHeadRun.head_any (r := OpenLaw.row PySem.Challenge.rw_fairbook_k10_book) (q := view (OpenLaw.row PySem.Challenge.rw_fairbook_k10_book).prog [57]) (H := hookX 4 hfa hfn hxb) (ob := hob) (M := 4000) (loose := hloose) (d := HandSHeadRun.topDef (OpenLaw.row PySem.Challenge.rw_fairbook_k10_book).prog 57) (kwd := []) hob_eq
    (by kernel_rfl) (fun s => by kernel_rfl) hrun (by kernel_rfl) (by kernel_rfl) (by kernel_rfl) (by rfl) (by first | assumption | decide +kernel) (by decide +kernel) ⟨rfl, rfl, rfl, rfl, rfl, by decide +kernel⟩ ?hw ?hc
  case hw => w_witness2
  case hc =>
    refine L2.walk_ofE (l := PySem.Challenge.rw_fairbook_k10_book) (n := 63) (k := 7) (x := "_law_script") (CX := L2.CX0) rfl (by decide) (by kernel_rfl) ⟨rfl, by decide, by decide⟩ ?F (fun _ _ _ _ z => z)
    intro w mg fa h Y G hmg0
    obtain ⟨K, KX, c, cx⟩ := Y
    have T : Tx K mg := tx_of KX G c cx
    have hmg : mg ("law" : PySem.Str) = some (.ref fa) := by
      have e : (HandSHeadRun.topDef (OpenLaw.row PySem.Challenge.rw_fairbook_k10_book).prog 57).name = ("law" : PySem.Str) := by kernel_rfl
      rw [← e]
      exact hmg0
    have e := hmg.symm.trans T.g_law
    cases e
    obtain ⟨fd, _, FDl, hF⟩ := w_law (P := (PySem.Challenge.rw_fairbook_k10_book).prog) (w := w) T
    have b := L2.FunD.bindsA (ps := ["_law_script"]) FDl fun _ _ _ _ _ _ us hl => match us, hl with | [_], _ => rfl
    exact ⟨K, fd, spLaw K, KX, fun s v => b s [v] rfl, fun H a ns hl _ hS => ⟨a, ns, rfl, hl, hS, fun _ => rfl⟩, fun base _ _ => hF base⟩

