import PyProof.Rows.All
import Wide.All
import OpenK.AllK
import Wide.FinOn
import HandS.ForMost
import HandS.ForExc
import HandS.IsInst
import HandS.TupAny
import HandS.DictComp
import HandS.Star
import HandS.Conv
import HandS.SortInts
import HandS.Small
import HandS.ExcSuper
import KE.KExcSuper
import KE.KDictList
import PySem.Challenge.RW_mastcalls_k49_whole_carried
import KE.DataEq
set_option Elab.async false
set_option linter.all false
set_option maxRecDepth 100000
set_option maxHeartbeats 4000000
/-! K49M: the mirror: what records, keepers, sequencers and letters are and do, in plain Lean. -/
namespace K49
abbrev Pr := Int × Int
inductive Rc where
  | pr (e : Int) | tk (e : Int) (p : Nat) (x : Int)
  deriving DecidableEq
inductive Lt where
  | ask (e : Int) (n : Nat) | write (e : Int) (n p : Nat) (x : Int)
  | refused (e : Int) (n : Nat) (k : Int) | told (e : Int) (n : Nat) (row : List Pr) | taken (e : Int) (n p : Nat)
  deriving DecidableEq
def Lt.ep : Lt → Int
  | .ask e _ => e | .write e _ _ _ => e | .refused e _ _ => e | .told e _ _ => e | .taken e _ _ => e
def Lt.num : Lt → Nat
  | .ask _ n => n | .write _ n _ _ => n | .refused _ n _ => n | .told _ n _ => n | .taken _ n _ => n
/-- it goes to a keeper -/
def Lt.down : Lt → Bool
  | .ask _ _ => true | .write _ _ _ _ => true | _ => false
structure RS where
  ep : Int
  row : List Pr
def RS.put (r : RS) : Rc → RS
  | .pr e => ⟨if e > r.ep then e else r.ep, r.row⟩
  | .tk e p x => ⟨if e > r.ep then e else r.ep, if p < r.row.length then r.row.set p (e, x) else r.row ++ [(e, x)]⟩
def recOf (l : List Rc) : RS := l.foldl RS.put ⟨-1, []⟩
def fits (row : List Pr) (e : Int) (p : Nat) : Bool := if row.length < p then false else (decide (p = 0) || (match row[p - 1]? with | some q => decide (q.1 = e) | none => false))
structure Kp where
  num : Nat
  recs : List Rc
  loose : List Rc
  wait : List Lt
  deriving DecidableEq
def Kp.new (n : Nat) : Kp := ⟨n, [], [], []⟩
def Kp.known (k : Kp) : RS := recOf (k.recs ++ k.loose)
def Kp.say (k : Kp) (l : Lt) : Kp := { k with wait := k.wait ++ [l] }
def Kp.note (k : Kp) (r : Rc) : Kp := { k with loose := k.loose ++ [r] }
def Kp.handle (k : Kp) (l : Lt) : Kp :=
  if l.ep < k.known.ep then k.say (.refused l.ep k.num k.known.ep)
  else match l with
    | .ask e _ => (if e > k.known.ep then k.note (.pr e) else k).say (.told e k.num k.known.row)
    | .write e _ p x =>
      if fits k.known.row e p = true then
        (if p = k.known.row.length ∨ k.known.row[p]? ≠ some (e, x) then k.note (.tk e p x) else k).say (.taken e k.num p)
      else k
    | _ => k
def Kp.flush (k : Kp) : Kp := ⟨k.num, k.recs ++ k.loose, [], []⟩
def Kp.fall (k : Kp) (n : Nat) : Kp := ⟨k.num, k.recs ++ k.loose.take n, [], []⟩
/-! sequencers -/
inductive Sd where
  | asking | leading | stopped
  deriving DecidableEq
structure Sq where
  ep : Int
  many : Nat
  st : Sd
  rows : List (Nat × List Pr)
  row : List Int
  tk : List Nat
  deriving DecidableEq
def Sq.new (e : Int) (m : Nat) : Sq := ⟨e, m, .asking, [], [], List.replicate m 0⟩
def hasR (rows : List (Nat × List Pr)) (n : Nat) : Bool := rows.any fun q => decide (q.1 = n)
def putR (rows : List (Nat × List Pr)) (n : Nat) (r : List Pr) : List (Nat × List Pr) :=
  if hasR rows n = true then rows.map (fun q => if q.1 = n then (q.1, r) else q) else rows ++ [(n, r)]
def longest (rows : List (List Pr)) : Nat := rows.foldl (fun m r => max m r.length) 0
def knownAt (rows : List (List Pr)) (p : Nat) : List Pr := rows.filterMap (·[p]?)
def mostOf : List Pr → Int
  | [] => 0
  | a :: r => r.foldl (fun m q => max m q.1) a.1
def pick (rows : List (List Pr)) (p : Nat) : Int := (((knownAt rows p).filter fun q => decide (q.1 = mostOf (knownAt rows p))).map (·.2)).headD 0
def newest (rows : List (List Pr)) : List Int := (List.range (longest rows)).map (pick rows)
def srt (l : List Int) : List Int := l.mergeSort (fun a b => decide (a ≤ b))
def rowOf (rows : List (Nat × List Pr)) (i : Int) : List Pr := ((rows.find? fun q => decide ((q.1 : Int) = i)).map (·.2)).getD []
def Sq.lead (s : Sq) : Sq := { s with row := newest ((srt (s.rows.map fun q => (q.1 : Int))).map (rowOf s.rows)), st := .leading }
def askTo (rows : List (Nat × List Pr)) (e : Int) (n : Nat) : Option Lt := if hasR rows n = true then none else some (.ask e n)
def writeTo (row : List Int) (tk : List Nat) (e : Int) (n : Nat) : Option Lt :=
  match tk[n]? with
  | some p => (match row[p]? with | some x => some (.write e n p x) | none => none)
  | none => none
def Sq.toSend (s : Sq) : List Lt :=
  match s.st with
  | .asking => (List.range s.many).filterMap (askTo s.rows s.ep)
  | .leading => (List.range s.many).filterMap (writeTo s.row s.tk s.ep)
  | .stopped => []
def Sq.hear (s : Sq) (l : Lt) : Sq :=
  if l.ep ≠ s.ep ∨ s.st = .stopped then s
  else match l with
    | .refused _ _ _ => { s with st := .stopped }
    | .told _ n row => if s.st = .asking then (let s' : Sq := { s with rows := putR s.rows n row }
        if s.many / 2 + 1 ≤ s'.rows.length then s'.lead else s') else s
    | .taken _ n p => if s.st = .leading ∧ s.tk[n]? = some p then { s with tk := s.tk.set n (p + 1) } else s
    | _ => s
def Sq.add (s : Sq) (x : Int) : Sq := { s with row := s.row ++ [x] }
def Sq.cnt (s : Sq) : Int := ((srt (s.tk.map fun (n : Nat) => (n : Int)))[s.many - (s.many / 2 + 1)]?).getD 0
def Sq.settled (s : Sq) : List Int := s.row.take s.cnt.toNat
/-! a side: keepers and sequencers -/
structure Sde where
  ks : List Kp
  ss : List Sq
  deriving DecidableEq
def Sde.at' (p : Sde) (n : Nat) (f : Kp → Kp) : Sde := { p with ks := match p.ks[n]? with | some k => p.ks.set n (f k) | none => p.ks }
def Sde.heard (p : Sde) (l : Lt) : Sde := { p with ss := p.ss.map (·.hear l) }
def Sde.bring (p : Sde) (l : Lt) : Sde := if l.down = true then p.at' l.num (·.handle l) else p.heard l
def Sde.give (up : List Nat) (p : Sde) (l : Lt) : Sde := if l.num ∈ up then p.at' l.num (·.handle l) else p
def Sde.waitOf (p : Sde) (n : Nat) : List Lt := match p.ks[n]? with | some k => k.wait | none => []
def Sde.reply (p : Sde) (n : Nat) : Sde := (p.waitOf n).foldl Sde.heard (p.at' n Kp.flush)
def Sde.exch (p : Sde) (s : Sq) (up : List Nat) : Sde := up.foldl Sde.reply (s.toSend.foldl (Sde.give up) p)
/-! ## what holds of them -/
/-- a told row's greatest length -/
abbrev rowTop : Nat := 1000
def LtOk (m : Nat) (l : Lt) : Prop := l.num < m ∧ (∀ e n row, l = .told e n row → row.length ≤ rowTop)
def AnsOk (m : Nat) (l : Lt) : Prop := LtOk m l ∧ l.down = false
structure KpOk (m b : Nat) (k : Kp) : Prop where
  num : k.num < m
  size : k.recs.length + k.loose.length ≤ b
  wsize : k.wait.length ≤ b
  wait : ∀ l ∈ k.wait, AnsOk m l
structure SqOk (m c : Nat) (s : Sq) : Prop where
  many : s.many = m
  tk : s.tk.length = m
  rows : ∀ q ∈ s.rows, q.1 < m ∧ q.2.length ≤ rowTop
  nd : (s.rows.map (·.1)).Nodup
  few : s.rows.length ≤ m / 2 + 1
  ask : s.st = .asking → s.rows.length ≤ m / 2
  row : s.row.length ≤ rowTop + c
structure SdeOk (m b c : Nat) (p : Sde) : Prop where
  len : p.ks.length = m
  num : ∀ (i : Nat) (k : Kp), p.ks[i]? = some k → k.num = i ∧ KpOk m b k
  sq : ∀ s ∈ p.ss, SqOk m c s

theorem put_len (r : RS) (x : Rc) : (r.put x).row.length ≤ r.row.length + 1 := by
  cases x with
  | pr e => exact Nat.le_succ _
  | tk e p x =>
    show (if p < r.row.length then r.row.set p (e, x) else r.row ++ [(e, x)]).length ≤ _
    split
    · rw [List.length_set]; exact Nat.le_succ _
    · rw [List.length_append]; exact Nat.le_refl _
theorem foldl_put_len : ∀ (l : List Rc) (r : RS), (l.foldl RS.put r).row.length ≤ r.row.length + l.length
  | [], _ => Nat.le_refl _
  | x :: l, r => by
    have h1 := foldl_put_len l (r.put x)
    have h2 := put_len r x
    rw [List.foldl_cons, List.length_cons]
    omega
theorem recOf_len (l : List Rc) : (recOf l).row.length ≤ l.length := by
  have h := foldl_put_len l ⟨-1, []⟩
  simpa [recOf] using h
theorem recOf_snoc (l : List Rc) (x : Rc) : recOf (l ++ [x]) = (recOf l).put x := by
  unfold recOf
  rw [List.foldl_append]
  rfl
theorem Kp.known_len {m b : Nat} {k : Kp} (h : KpOk m b k) : k.known.row.length ≤ b := by
  have h1 := recOf_len (k.recs ++ k.loose)
  rw [List.length_append] at h1
  exact Nat.le_trans h1 h.size
theorem KpOk.mono {m b b' : Nat} {k : Kp} (h : KpOk m b k) (hb : b ≤ b') : KpOk m b' k := ⟨h.num, Nat.le_trans h.size hb, Nat.le_trans h.wsize hb, h.wait⟩
theorem KpOk.say {m b : Nat} {k : Kp} {l : Lt} (n : k.num < m) (s : k.recs.length + k.loose.length ≤ b + 1) (ws : k.wait.length ≤ b) (wt : ∀ l ∈ k.wait, AnsOk m l) (hl : AnsOk m l) : KpOk m (b + 1) (k.say l) := by
  refine ⟨n, s, ?_, ?_⟩
  · show (k.wait ++ [l]).length ≤ b + 1
    rw [List.length_append]; exact Nat.add_le_add_right ws 1
  · intro x hx
    rcases List.mem_append.mp hx with hx | hx
    · exact wt x hx
    · rw [List.mem_singleton.mp hx]; exact hl
theorem Kp.say_num (k : Kp) (l : Lt) : (k.say l).num = k.num := rfl
theorem Kp.handle_num (k : Kp) (l : Lt) : (k.handle l).num = k.num := by
  unfold Kp.handle
  split
  · rfl
  · split
    · split <;> rfl
    · split
      · split <;> rfl
      · rfl
    · rfl
theorem KpOk.handle {m b : Nat} {k : Kp} (h : KpOk m b k) (hb : b ≤ rowTop) (l : Lt) : KpOk m (b + 1) (k.handle l) := by
  have e1 : k.recs.length + k.loose.length ≤ b + 1 := Nat.le_succ_of_le h.size
  have hn (r : Rc) : (k.note r).recs.length + (k.note r).loose.length ≤ b + 1 := by
    show k.recs.length + (k.loose ++ [r]).length ≤ b + 1
    rw [List.length_append]
    have := h.size
    show k.recs.length + (k.loose.length + 1) ≤ b + 1
    omega
  unfold Kp.handle
  split
  · exact KpOk.say h.num e1 h.wsize h.wait ⟨⟨h.num, fun e n row z => by cases z⟩, rfl⟩
  · split
    · have hl (e : Int) : AnsOk m (.told e k.num k.known.row) := ⟨⟨h.num, fun e n row z => by cases z; exact Nat.le_trans (Kp.known_len h) hb⟩, rfl⟩
      split
      · exact KpOk.say h.num (hn _) h.wsize h.wait (hl _)
      · exact KpOk.say h.num e1 h.wsize h.wait (hl _)
    · split
      · have hl (e : Int) (p : Nat) : AnsOk m (.taken e k.num p) := ⟨⟨h.num, fun e n row z => by cases z⟩, rfl⟩
        split
        · exact KpOk.say h.num (hn _) h.wsize h.wait (hl _ _)
        · exact KpOk.say h.num e1 h.wsize h.wait (hl _ _)
      · exact h.mono (Nat.le_succ _)
    · exact h.mono (Nat.le_succ _)
theorem KpOk.flush {m b : Nat} {k : Kp} (h : KpOk m b k) : KpOk m b k.flush := by
  refine ⟨h.num, ?_, Nat.zero_le _, fun l hl => by cases hl⟩
  show (k.recs ++ k.loose).length + 0 ≤ b
  rw [List.length_append]; exact h.size
theorem KpOk.fall {m b : Nat} {k : Kp} (h : KpOk m b k) (n : Nat) : KpOk m b (k.fall n) := by
  refine ⟨h.num, ?_, Nat.zero_le _, fun l hl => by cases hl⟩
  show (k.recs ++ k.loose.take n).length + 0 ≤ b
  rw [List.length_append, List.length_take]
  have := h.size
  omega
theorem SqOk.mono {m c c' : Nat} {s : Sq} (h : SqOk m c s) (hc : c ≤ c') : SqOk m c' s := ⟨h.many, h.tk, h.rows, h.nd, h.few, h.ask, Nat.le_trans h.row (Nat.add_le_add_left hc _)⟩
theorem SqOk.new (e : Int) (m c : Nat) : SqOk m c (.new e m) := ⟨rfl, List.length_replicate .., fun q h => (by cases h), .nil, Nat.zero_le _, fun _ => Nat.zero_le _, Nat.zero_le _⟩
theorem hasR_iff {rows : List (Nat × List Pr)} {n : Nat} : hasR rows n = true ↔ n ∈ rows.map (·.1) := by
  unfold hasR
  rw [List.any_eq_true, List.mem_map]
  constructor
  · rintro ⟨q, hq, e⟩
    exact ⟨q, hq, of_decide_eq_true e⟩
  · rintro ⟨q, hq, e⟩
    exact ⟨q, hq, decide_eq_true e⟩
theorem putR_keys (rows : List (Nat × List Pr)) (n : Nat) (r : List Pr) : (putR rows n r).map (·.1) = if hasR rows n = true then rows.map (·.1) else rows.map (·.1) ++ [n] := by
  unfold putR
  split
  · rw [List.map_map]
    refine List.map_congr_left fun q _ => ?_
    show (if q.1 = n then (q.1, r) else q).1 = q.1
    split <;> rfl
  · rw [List.map_append]; rfl
theorem putR_len (rows : List (Nat × List Pr)) (n : Nat) (r : List Pr) : (putR rows n r).length ≤ rows.length + 1 := by
  have h := congrArg List.length (putR_keys rows n r)
  rw [List.length_map] at h
  rw [h]
  split
  · rw [List.length_map]; exact Nat.le_succ _
  · rw [List.length_append, List.length_map]; exact Nat.le_refl _
theorem putR_mem {rows : List (Nat × List Pr)} {n : Nat} {r : List Pr} {q : Nat × List Pr} (h : q ∈ putR rows n r) : q ∈ rows ∨ q = (n, r) := by
  unfold putR at h
  split at h
  · obtain ⟨z, hz, e⟩ := List.mem_map.mp h
    split at e
    · rename_i hn
      exact .inr (by rw [← e, hn])
    · exact .inl (by rw [← e]; exact hz)
  · rcases List.mem_append.mp h with h | h
    · exact .inl h
    · exact .inr (List.mem_singleton.mp h)
theorem putR_nd {rows : List (Nat × List Pr)} {n : Nat} {r : List Pr} (h : (rows.map (·.1)).Nodup) : ((putR rows n r).map (·.1)).Nodup := by
  rw [putR_keys]
  split
  · exact h
  · rename_i hn
    have hn' : ¬ n ∈ rows.map (·.1) := fun z => hn (hasR_iff.mpr z)
    refine List.nodup_append.mpr ⟨h, List.nodup_cons.mpr ⟨by simp, .nil⟩, fun a ha b hb e => ?_⟩
    rw [List.mem_singleton.mp hb] at e
    exact hn' (e ▸ ha)
theorem longest_fold : ∀ (rows : List (List Pr)) (m b : Nat), m ≤ b → (∀ r ∈ rows, r.length ≤ b) → rows.foldl (fun m r => max m r.length) m ≤ b
  | [], _, _, h, _ => h
  | r :: rows, m, b, h, hr => longest_fold rows _ b (Nat.max_le.mpr ⟨h, hr r (List.mem_cons_self ..)⟩) fun x hx => hr x (List.mem_cons_of_mem _ hx)
theorem newest_len {rows : List (List Pr)} {b : Nat} (h : ∀ r ∈ rows, r.length ≤ b) : (newest rows).length ≤ b := by
  unfold newest
  rw [List.length_map, List.length_range]
  exact longest_fold rows 0 b (Nat.zero_le _) h
theorem rowOf_len {rows : List (Nat × List Pr)} {m : Nat} (h : ∀ q ∈ rows, q.1 < m ∧ q.2.length ≤ rowTop) (i : Int) : (rowOf rows i).length ≤ rowTop := by
  unfold rowOf
  cases e : rows.find? fun q => decide ((q.1 : Int) = i) with
  | none => exact Nat.zero_le _
  | some q => exact (h q (List.mem_of_find?_eq_some e)).2
theorem SqOk.lead {m c : Nat} {s : Sq} (many : s.many = m) (tk : s.tk.length = m) (rows : ∀ q ∈ s.rows, q.1 < m ∧ q.2.length ≤ rowTop) (nd : (s.rows.map (·.1)).Nodup) (few : s.rows.length ≤ m / 2 + 1) : SqOk m c s.lead := by
  refine ⟨many, tk, rows, nd, few, fun h => (by cases h), ?_⟩
  refine Nat.le_trans (newest_len (b := rowTop) fun r hr => ?_) (Nat.le_add_right _ _)
  obtain ⟨i, _, e⟩ := List.mem_map.mp hr
  rw [← e]
  exact rowOf_len rows i
theorem SqOk.hear {m c : Nat} {s : Sq} (h : SqOk m c s) {l : Lt} (hl : LtOk m l) : SqOk m c (s.hear l) := by
  unfold Sq.hear
  split
  · exact h
  · cases l with
    | ask e n => exact h
    | write e n p x => exact h
    | refused e n k => exact ⟨h.many, h.tk, h.rows, h.nd, h.few, fun z => (by cases z), h.row⟩
    | told e n row =>
      dsimp only
      split
      · rename_i ha
        have r1 : ∀ q ∈ putR s.rows n row, q.1 < m ∧ q.2.length ≤ rowTop := fun q hq => by
          rcases putR_mem hq with hq | hq
          · exact h.rows q hq
          · rw [hq]; exact ⟨hl.1, hl.2 _ _ _ rfl⟩
        have r2 := putR_nd (n := n) (r := row) h.nd
        have r3 := putR_len s.rows n row
        have r4 := h.ask ha
        split
        · exact SqOk.lead h.many h.tk r1 r2 (by show (putR s.rows n row).length ≤ _; omega)
        · rename_i hm
          have hm' : ¬ s.many / 2 + 1 ≤ (putR s.rows n row).length := hm
          rw [h.many] at hm'
          exact ⟨h.many, h.tk, r1, r2, by show (putR s.rows n row).length ≤ _; omega, fun _ => by show (putR s.rows n row).length ≤ _; omega, h.row⟩
      · exact h
    | taken e n p =>
      dsimp only
      split
      · exact ⟨h.many, (List.length_set ..).trans h.tk, h.rows, h.nd, h.few, h.ask, h.row⟩
      · exact h
theorem SqOk.add {m c : Nat} {s : Sq} (h : SqOk m c s) (x : Int) : SqOk m (c + 1) (s.add x) := by
  refine ⟨h.many, h.tk, h.rows, h.nd, h.few, h.ask, ?_⟩
  show (s.row ++ [x]).length ≤ _
  rw [List.length_append]
  exact Nat.add_le_add_right h.row 1
theorem SqOk.stop {m c : Nat} {s : Sq} (h : SqOk m c s) : SqOk m c { s with st := .stopped } := ⟨h.many, h.tk, h.rows, h.nd, h.few, fun z => (by cases z), h.row⟩
theorem toSend_ok {m c : Nat} {s : Sq} (h : SqOk m c s) : s.toSend.length ≤ m ∧ ∀ l ∈ s.toSend, LtOk m l ∧ l.down = true := by
  unfold Sq.toSend
  split
  · refine ⟨Nat.le_trans (List.length_filterMap_le _ _) (by rw [List.length_range, h.many]; exact Nat.le_refl _), fun l hl => ?_⟩
    obtain ⟨n, hn, e⟩ := List.mem_filterMap.mp hl
    unfold askTo at e
    split at e
    · cases e
    · cases e
      exact ⟨⟨by rw [← h.many]; exact List.mem_range.mp hn, fun e n row z => by cases z⟩, rfl⟩
  · refine ⟨Nat.le_trans (List.length_filterMap_le _ _) (by rw [List.length_range, h.many]; exact Nat.le_refl _), fun l hl => ?_⟩
    obtain ⟨n, hn, e⟩ := List.mem_filterMap.mp hl
    unfold writeTo at e
    split at e
    · split at e
      · cases e
        exact ⟨⟨by rw [← h.many]; exact List.mem_range.mp hn, fun e n row z => by cases z⟩, rfl⟩
      · cases e
    · cases e
  · exact ⟨Nat.zero_le _, fun l hl => by cases hl⟩
/-! sides -/
theorem SdeOk.mono {m b c b' c' : Nat} {p : Sde} (h : SdeOk m b c p) (hb : b ≤ b') (hc : c ≤ c') : SdeOk m b' c' p := ⟨h.len, fun i k e => ⟨(h.num i k e).1, (h.num i k e).2.mono hb⟩, fun s hs => (h.sq s hs).mono hc⟩
theorem Sde.at'_some {p : Sde} {n : Nat} {k : Kp} (e : p.ks[n]? = some k) (f : Kp → Kp) : p.at' n f = { p with ks := p.ks.set n (f k) } := by
  unfold Sde.at'
  rw [e]
theorem SdeOk.at' {m b b' c : Nat} {p : Sde} (h : SdeOk m b c p) (hb : b ≤ b') (n : Nat) (f : Kp → Kp) (hf : ∀ k, KpOk m b k → KpOk m b' (f k)) (hn : ∀ k, (f k).num = k.num) : SdeOk m b' c (p.at' n f) := by
  cases e : p.ks[n]? with
  | none =>
    have q : p.at' n f = p := by unfold Sde.at'; rw [e]
    rw [q]
    exact h.mono hb (Nat.le_refl _)
  | some k =>
    rw [Sde.at'_some e]
    refine ⟨(List.length_set ..).trans h.len, fun i k' e' => ?_, h.sq⟩
    have e2 : (p.ks.set n (f k))[i]? = some k' := e'
    by_cases hi : i = n
    · subst hi
      rw [List.getElem?_set_self (List.getElem?_eq_some_iff.mp e).1] at e2
      cases e2
      exact ⟨(hn k).trans (h.num i k e).1, hf k (h.num i k e).2⟩
    · rw [List.getElem?_set_ne (fun z => hi z.symm)] at e2
      exact ⟨(h.num i k' e2).1, (h.num i k' e2).2.mono hb⟩
theorem SdeOk.handle {m b c : Nat} {p : Sde} (h : SdeOk m b c p) (hb : b ≤ rowTop) (n : Nat) (l : Lt) : SdeOk m (b + 1) c (p.at' n (·.handle l)) :=
  h.at' (Nat.le_succ _) n _ (fun _ hk => hk.handle hb l) fun k => k.handle_num l
theorem SdeOk.flush {m b c : Nat} {p : Sde} (h : SdeOk m b c p) (n : Nat) : SdeOk m b c (p.at' n Kp.flush) := h.at' (Nat.le_refl _) n _ (fun _ hk => hk.flush) fun _ => rfl
theorem SdeOk.fall {m b c : Nat} {p : Sde} (h : SdeOk m b c p) (n i : Nat) : SdeOk m b c (p.at' n (·.fall i)) := h.at' (Nat.le_refl _) n _ (fun _ hk => hk.fall i) fun _ => rfl
theorem SdeOk.heard {m b c : Nat} {p : Sde} (h : SdeOk m b c p) {l : Lt} (hl : LtOk m l) : SdeOk m b c (p.heard l) := ⟨h.len, h.num, fun s hs => by
  obtain ⟨s0, h0, e⟩ := List.mem_map.mp hs
  rw [← e]
  exact (h.sq s0 h0).hear hl⟩
theorem SdeOk.bring {m b c : Nat} {p : Sde} (h : SdeOk m b c p) (hb : b ≤ rowTop) {l : Lt} (hl : LtOk m l) : SdeOk m (b + 1) c (p.bring l) := by
  unfold Sde.bring
  split
  · exact h.handle hb _ l
  · exact (h.heard hl).mono (Nat.le_succ _) (Nat.le_refl _)
theorem SdeOk.give {m b c : Nat} {p : Sde} (h : SdeOk m b c p) (hb : b ≤ rowTop) (up : List Nat) (l : Lt) : SdeOk m (b + 1) c (p.give up l) := by
  unfold Sde.give
  split
  · exact h.handle hb _ l
  · exact h.mono (Nat.le_succ _) (Nat.le_refl _)
theorem SdeOk.waitOf {m b c : Nat} {p : Sde} (h : SdeOk m b c p) (n : Nat) : ∀ l ∈ p.waitOf n, AnsOk m l := by
  unfold Sde.waitOf
  split
  · rename_i k e
    exact (h.num n k e).2.wait
  · intro l hl; cases hl
theorem SdeOk.heards {m b c : Nat} : ∀ {w : List Lt} {p : Sde}, SdeOk m b c p → (∀ l ∈ w, AnsOk m l) → SdeOk m b c (w.foldl Sde.heard p)
  | [], _, h, _ => h
  | l :: w, _, h, hw => SdeOk.heards (w := w) (h.heard (hw l (List.mem_cons_self ..)).1) fun x hx => hw x (List.mem_cons_of_mem _ hx)
theorem SdeOk.reply {m b c : Nat} {p : Sde} (h : SdeOk m b c p) (n : Nat) : SdeOk m b c (p.reply n) := SdeOk.heards (h.flush n) (h.waitOf n)
theorem SdeOk.gives {m c : Nat} (up : List Nat) : ∀ (w : List Lt) {p : Sde} {b : Nat}, SdeOk m b c p → b + w.length ≤ rowTop → SdeOk m (b + w.length) c (w.foldl (Sde.give up) p)
  | [], _, _, h, _ => h
  | l :: w, p, b, h, hb => by
    rw [List.length_cons] at hb ⊢
    have r := SdeOk.gives up w (h.give (by omega) up l) (by omega)
    rw [show b + (w.length + 1) = b + 1 + w.length by omega]
    exact r
theorem SdeOk.replies {m b c : Nat} : ∀ (up : List Nat) {p : Sde}, SdeOk m b c p → SdeOk m b c (up.foldl Sde.reply p)
  | [], _, h => h
  | n :: up, _, h => SdeOk.replies up (h.reply n)
end K49

/-! K49R: rules of our own. -/
namespace K49
open PySem PySem.Spec PyProof.Rows L2
section
variable {X : Cx}
/-- xs[i], by values, for xs[i] op= e -/
def gLst (K : PySem.W.Frag) : V → V → Hp → VK → Prop := fun o i H Q => ∃ p xs k v, o = .ref p ∧ i = .int k ∧ 0 ≤ k ∧ k < 2 ^ 63 ∧ H p = some (.lst xs) ∧ xs[k.toNat]? = some v ∧ Q v H
theorem get_list : PGet X (gLst X.K) := by
  intro pins s σ H o i ov iv Q I ro ri h
  obtain ⟨p, xs, k, v, rfl, rfl, h0, h1, hp, hv, q⟩ := h
  cases ro
  obtain ⟨t, rfl⟩ := ri
  obtain ⟨its, r, pl, hz⟩ := I.list (K49SqL hp)
  obtain ⟨u, eu, ru⟩ := r.get hv
  exact wpAny_getItem_list pl.isList h0 h1 (by simpa using eu) ⟨v, H, I, ru, q⟩
where K49SqL {p : Addr} {xs : List V} {H : Hp} (hp : H p = some (.lst xs)) : SqL X.K H p xs := .inl (.inl hp)
/-- xs == [] -/
def rEqNil (K : PySem.W.Frag) : R2 := fun x y H Q => ∃ a b xs, x = .ref a ∧ y = .ref b ∧ SqL K H a xs ∧ SqL K H b [] ∧ Q (.bl xs.isEmpty) H
theorem op_eqNil (hu : X.A.units + 64 < cLine) : OpR X (compareOp .Eq) (rEqNil X.K) := by
  intro pins s σ H x y v u Q I rx ry h
  obtain ⟨a, b, xs, rfl, rfl, ha, hb, q⟩ := h
  cases rx; cases ry
  obtain ⟨its, r, pl, hz⟩ := I.list ha
  obtain ⟨its2, r2, pl2, hz2⟩ := I.list hb
  cases r2
  have hu' : X.A.units < cLine := Nat.lt_of_le_of_lt (Nat.le_add_right _ _) hu
  cases r with
  | nil =>
    refine SeqAt.RcAt.lists (e := fun _ => true) pl.isList pl2.isList rfl hu' (fun j h1 _ => absurd h1 (Nat.not_lt_zero j)) X.prog X.w _ _ ?_
    exact ⟨.bl true, H, I, rfl, q⟩
  | cons r0 rr =>
    refine SeqAt.RcAt.lists_lengths pl.isList pl2.isList (by simp) hu' X.prog X.w _ _ ?_
    exact ⟨.bl false, H, I, rfl, q⟩
/-- list(e.values()) -/
def tListVals (te : TE) : TE := fun σ H Q => te σ H fun x H1 => ∃ (d : Addr) (kvs : List (Key × V)), x = .ref d ∧ H1 d = some (.dK kvs) ∧ ∀ q, H1 q = none → Q (.ref q) (upd H1 q (.lst (kvs.map (·.2))))
theorem pe_listVals {e : Expr} {te : TE} {p apos cpos pos : Pos} (hc : X.calm = true) (he : PE X e te) (hg : Gl X "list") (hm : X.mg "list" = none) (hv : bootBuiltins "list" = some (.type "list")) (hbase : attributeBase e "values" X.env (eval e X.env) = eval e X.env := by rfl) (hline : (apos.endLine == cpos.line) = true := by rfl)
    (hs : starEach [.Call (.Attribute e "values" apos) [] [] cpos] X.env = (false, eval (.Call (.Attribute e "values" apos) [] [] cpos) X.env) :: starEach [] X.env := by rfl) :
    PE X (.Call (.Name "list" p) [.Call (.Attribute e "values" apos) [] [] cpos] [] pos) (tListVals te) := by
  refine ⟨fun pins s σ H Q I hq => ?_⟩
  refine wpAny_Call_Name_kw (ld_blt I hg hm hv ?_)
  refine PyProof.Rows.callWith_type1 ?_ hs rfl
  rw [hs]
  show wpAny _ _ (spliced ((false, eval (.Call (.Attribute e "values" apos) [] [] cpos) X.env) :: backTo pos (starEach [] X.env))) _ _ s
  refine Calls.spliced_cons ?_
  refine wpAny_Call_method (T := "dict") (id := "dict.values") hbase rfl hline F.plainAttrs_dict F.slot_dict_values F.type_dict_values (thn (he.run pins s σ H _ I hq) fun u s1 ⟨x, H1, I1, rx, d, kvs, ex, hd, q⟩ => ?_)
  subst ex
  obtain rfl : u = Value.ref d := rx
  obtain ⟨hz, hs0, vs, kv, hdo⟩ := I1.hok d _ hd
  obtain ⟨ep, hat⟩ := hdo.dictAt
  have lk : kvs.length = vs.length := Paired.length kv
  have I2 : Inv X pins σ H1 { s1 with heap := s1.heap.push { cls := .type "dict_values", data := .fields #[.ref d] } } := I1.kept (t' := s1.toks) fun b ob q => Heap.get?_push_of_some _ q
  refine ⟨hdo.typeIs, hdo.mapOf.noDict, ?_⟩
  show wpAny _ _ (callWith cpos (.builtin "dict.values") [.ref d] [] []) _ X.xe s1
  refine method_meetsIn F.slot_dict_values F.entry_dict_values rfl (PySem.evalArgs_none ⟨rfl, hdo.typeIs, F.args_dict_values_1 _, _, meets_dict_values (mixKind X.prog X.w) d hs0, ⟨vs, hdo⟩, ?_⟩)
  refine Calls.spliced_nil ?_
  refine PySem.W.kdl_call (PySem.W.kdl_values (knd := mixKind X.prog X.w) (kvs := vs) (ep := ep)) (I1.ok.hd hc) ⟨⟨_, Heap.get?_push_size _ rfl, rfl, rfl⟩, hat.push _⟩ (by omega) fun h' tk acc c hk hS hacc => ?_
  refine ⟨.ref _, upd H1 _ (.lst (kvs.map (·.2))), I2.laid (t' := tk) hk (Nat.le_refl _) ⟨by rw [List.length_map]; exact hz, acc.toList, c, ?_, ?_⟩, rfl, q _ (I2.hok.fresh (Nat.le_refl _))⟩
  · have el : acc.toList.length = acc.size := by simp
    refine L2.vals_of_at (by rw [List.length_map, el, hacc.1, lk]) fun j x w h1 h2 => ?_
    obtain ⟨k, hky⟩ := hacc.2 j w (by rw [← Array.getElem?_toList]; exact h2)
    obtain ⟨z, e1, e2⟩ := L2.KV.at' kv hky
    rw [List.getElem?_map, e1] at h1
    cases h1
    exact e2
  · rw [Array.toArray_toList]; exact hS
/-- o.m(e, ..), o an instance: what m raises is wished for at the caller's slots -/
def tMethSx (C : Addr) (m : Str) (sp : Sp) (E : L2.St → XK) (ta : TE) (t : TA) : TE := fun σ H Q => ta σ H fun x H1 => ∃ a dx fs, x = .ref a ∧ H1 a = some (.ins C dx fs) ∧ fs.lookup m = none ∧ t σ H1 fun vs H2 => sp (x :: vs) H2 Q (E σ)
theorem pe_methSx {CX : CXT} {k : Nat} {f C : Addr} {fd : FuncData} {ps : List Str} {sp : Sp} {E : L2.St → XK} {m : Str} {pos apos : Pos} {e o : Expr} {es : List Expr} {ta : TE} {t : TA} {pl : Sem Bool}
    (he : PE X o ta) (c : Cls X.K C) (hm : Meth X.K C m f) (F : FnOk X.prog X.w X.K X.mg X.base CX k f fd ps sp) (hr : Room k X.A) (hb : Binds X.K fd ps []) (hx : ∀ σ, PassesAt CX X σ (E σ)) (ha : PA X (e :: es) t)
    (hst : starEach (e :: es) X.env = (false, eval e X.env) :: starEach es X.env := by rfl) (hpl : (backTo pos (starEach es X.env)).any (·.1) = false := by rfl)
    (ht : eval (.Call (.Attribute o m apos) (e :: es) [] pos) X.env = (do
      let ov ← eval o X.env
      standAt apos.atName
      let (f, first) ← holding [ov] (getMethod ov m pl)
      callWith pos f first (backTo pos (starEach (e :: es) X.env)) (backToKw pos (keywordEach [] X.env))) := by rfl) :
    PE X (.Call (.Attribute o m apos) (e :: es) [] pos) (tMethSx C m sp E ta t) := by
  refine ⟨fun pins s σ H Q I h => ?_⟩
  refine PySem.W.methodCall_KW (pl := pl) (thn (he.run pins s σ H _ I h) fun u s1 ⟨x, H1, I1, rx, a, dx, fs, ex, ea, l, q⟩ => ?_) ht
  subst ex
  obtain rfl : u = Value.ref a := rx
  refine getmeth_ok I1 ea c hm l ?_
  refine PySem.W.callWith_K (first := [.ref a]) (h₀ := X.base) I.ok.mod.kin hm.kp (thn (ha.run pos pins s1 σ H1 _ I1 q) fun us s2 ⟨vs, H2, I2, r, q2⟩ => ⟨I2.kIn, ?_⟩) hst hpl
  exact run_fnS (us := .ref a :: us) (vs := .ref a :: vs) F hr hb (hx σ) I2 (.cons rfl r) q2
end
/-- a dict comprehension over a range -/
theorem dc_rng {lo : Int} {n : Nat} {g : TG} {tt : TT} {tk tv : TE} {vs : List Nat} {σ : L2.St} {H1 : Hp} {D : Addr} {Qd : Hp → Prop} (Pv : Nat → Hp → Prop) (h0 : Pv 0 (upd H1 D (.dK [])))
    (hs : ∀ (i : Nat) (H : Hp), i < n → Pv i H → g (.int (lo + i)) (wipe σ vs) H fun s2 H2 => wipe s2 vs = wipe σ vs ∧ tt s2 H2 fun b H3 =>
      if b = true then tk s2 H3 fun y H4 => tv s2 H4 fun z H5 => ∃ kvs k, y = kV k ∧ H5 D = some (.dK kvs) ∧ kvs.length < sizeLine ∧ Pv (i + 1) (upd H5 D (.dK (putK kvs k z))) else Pv (i + 1) H3)
    (hd : ∀ H, Pv n H → Qd H) :
    ∃ W : Nat → Nat → Hp → Prop, (∃ m, W 0 m (upd H1 D (.dK []))) ∧ ∀ i m H, W i m H → ((Itr lo n).stop i H ∧ Qd H) ∨
      ((Itr lo n).go i H ∧ ∃ Nx : Hp → Prop, (∀ H', Nx H' → ∃ m', m' < m ∧ W (i + 1) m' H') ∧ ∀ x H', (Itr lo n).yld i H x H' → g x (wipe σ vs) H' fun s2 H2 => wipe s2 vs = wipe σ vs ∧ tt s2 H2 fun b H3 =>
        if b = true then tk s2 H3 fun y H4 => tv s2 H4 fun z H5 => ∃ kvs k, y = kV k ∧ H5 D = some (.dK kvs) ∧ kvs.length < sizeLine ∧ Nx (upd H5 D (.dK (putK kvs k z))) else Nx H3) := by
  refine ⟨fun i m H => m = n - i ∧ i ≤ n ∧ Pv i H, ⟨n, by simp, Nat.zero_le _, h0⟩, ?_⟩
  rintro i m H ⟨rfl, hi, p⟩
  by_cases c : i < n
  · refine .inr ⟨c, Pv (i + 1), fun H' p' => ⟨n - (i + 1), by omega, rfl, c, p'⟩, fun x H' y => ?_⟩
    obtain ⟨e1, e2⟩ := y
    subst e1 e2
    exact hs i _ c p
  · have e : i = n := by omega
    subst e
    exact .inl ⟨Nat.le_refl _, hd H p⟩
end K49

/-! K49E: the error BadName: CallError over Exception, its __init__ says super().__init__('a bad name') and stores its name. -/
namespace K49
open PySem L2
def top (i : Nat) : Stmt := PySem.Challenge.pw_mastcalls_k49_whole_carried.main.body.getD i (.Pass ⟨0, 0, 0, 0⟩)
abbrev sBad : Stmt := inClass (top 2) 0
end K49
namespace PySem
namespace K49X
open PySem.W PySem.Calls PyProof.Rows PySem.HandSPX
open K49 L2
abbrev exMro (CE : Addr) : List Value := .ref CE :: ESX.exTail
theorem exMro_contains (CE : Addr) (X : String) : (exMro CE).contains (.type X) = ESX.exTail.contains (.type X) := by
  show List.contains (.ref CE :: ESX.exTail) (.type X) = _
  rw [List.contains_cons]
  rfl
/-- what the written part says of BadName, at C, of CallError, at CE, and of BadName's __init__, at fI, whose cell __class__ stands at cc -/
structure BadTxt (P : Program) (K : Frag) (mg : Str → Option Value) (C CE fI : Addr) : Prop where
  gC : mg "BadName" = some (.ref C)
  gS : mg "super" = none
  cls : ∃ nm q N bs sn sub ab col dd k0 k1 k2 k3 k5, K.lookup C = some (excClassObj nm q C N bs (exMro CE) true sn sub ab col dd k0 k1 k2 k3 k5 "Exception.__new__")
  ne : CE ≠ C
  along : alongIn K "__init__" (exMro CE) = some (some (.builtin "Exception.__init__"))
  hop : nsIn K cStatics "thirdparty.any" = some none
  sa : findIn K (.ref C) "__setattr__" = some (some (.builtin "object.__setattr__"))
  ga : findIn K (.ref C) "__getattribute__" = some (some (.builtin "BaseException.__getattribute__"))
  gg : findIn K (.ref C) "__getattr__" = some none
  noN : findIn K (.ref C) "name" = some none
  iC : findIn K (.ref C) "__init__" = some (some (.ref fI))
  tC : typeIn K (.ref fI) = some (.type "function")
  kC : keepIn K (.ref C) = true
  exC : subIn K (.ref C) (.type "BaseException") = some true
  exE : subIn K (.ref C) (.type "Exception") = some true
  tyC : typeIn K (.ref C) = some (.type "type")
  hdC : hasDictIn K C = true
  te : exmOne K (.ref C) (.ref C) = some true
  file : ((P.main.file : Str) == ("/claim/cut.py" : Str)) = true
  tops : (P.main.scope.names.lookup ("super" : Str)).isSome = false
  fn : ∃ (oc : Value) (od : Option Addr) (doc pm : Value) (an : Option Addr) (cda : Addr) (ct : Value) (osl : Array (Option Value)) (cc : Addr) (kV : Value)
    (cl : Value) (cld : Option Addr) (csl : Array (Option Value)) (ccl : Value) (cdd : Option Addr) (vs : Array Value) (ccs : Array (Option Value)) (tf : Tok),
    K.lookup fI = some ⟨oc, od, .func (ksFn "__init__" "BadName.__init__" (defArgs sBad) (defBody sBad) (defScope sBad) .none kV doc pm an (.ref cda) ct cc), osl⟩ ∧ codeIn K (.ref cda) "BadName.__init__" = true ∧
    K.lookup cc = some ⟨cl, cld, .cell (some (.ref C)), csl⟩ ∧ K.lookup cda = some ⟨ccl, cdd, .fields vs, ccs⟩ ∧ vs[2]? = some (.str "/claim/cut.py" tf)
structure InitEnd (h h' : Heap) (x C dx t1 : Addr) (v : Value) : Prop where
  keep : ∀ b o, b ≠ x → h.get? b = some o → h'.get? b = some o
  obj : h'.get? x = some { cls := .ref C, dict := some dx, data := .fields #[.ref t1, .none, .none, .none, .bool false, .none] }
  dbig : h.objs.size ≤ dx
  dne : dx ≠ x
  ns : h'.Ns1 dx (fun y => if y = "name" then some v else none)
structure OwnMade (h h' : Heap) (e C d : Addr) (v : Value) : Prop where
  keep : ∀ b o, h.get? b = some o → h'.get? b = some o
  new : h.objs.size ≤ e
  obj : ∃ oe vs, h'.get? e = some oe ∧ oe.cls = .ref C ∧ oe.dict = some d ∧ oe.data = .fields vs ∧ vs[1]? = some .none
  dbig : h.objs.size ≤ d
  dne : d ≠ e
  ns : h'.Ns1 d (fun y => if y = "name" then some v else none)
section
open Builtin Builtin.ObjectAttr
variable {prog : Program} {w : World} {A : Around} {E : Value → Shared → Prop} {R : Result → Shared → Prop} {hp : Heap} {g : Array GenState} {d : Drawn} {t : Nat} {os : OsState}
/-- self.name = v: the error has no dict yet -/
theorem osa_new {K : Frag} {name : Str} {tk : Tok} {v : Value} {x C CE : Addr} {fv : Array Value} {cd : ClassData}
    (X : K.In hp) (hx : hp.get? x = some { cls := .ref C, data := .fields fv }) (hcd : clsIn K C = some cd) (hm : cd.mro = .ref C :: exMro CE) (hh : cd.hasDict = true) (ha : findIn K (.ref C) name = some none)
    (hq : ∀ h' tk' dx, (∀ b o, b ≠ x → hp.get? b = some o → h'.get? b = some o) → hp.objs.size ≤ dx → dx ≠ x → h'.get? x = some { cls := .ref C, dict := some dx, data := .fields fv } →
      h'.Ns1 dx (fun y => if y = name then some v else none) → R (.ok (.ret .none)) ⟨h', g, d, tk', os⟩) :
    codeAny (model prog w) A (.call (.builtin "object.__setattr__") ⟨[.ref x, .str name tk, v], []⟩) R ⟨hp, g, d, t, os⟩ := by
  have I : InstAt hp x { cls := .ref C, data := .fields fv } C none := ⟨hx, rfl, rfl, trivial⟩
  have SF := F.store_object
  have hob : cd.mro.contains (.type "object") = true := by
    rw [hm, List.contains_cons, exMro_contains, show ESX.exTail.contains (.type "object") = true by decide +kernel, Bool.or_true]
  have hxs : x ≠ hp.objs.size := Nat.ne_of_lt (Heap.lt_size hx)
  have sub : Looks (model prog w) hp (isInstance (.ref x) (.type "object")) true := I.type.andThen (looks_mroIn X (by unfold mroIn; rw [hcd, Option.bind_some, if_neg (by rw [hm]; exact Bool.false_ne_true), hob]))
  refine codeAny_call_builtin SF.slot.plain SF.entry (@check_slot (model prog w) _ _ ⟨hp, g, d, t, os⟩ "object.__setattr__" "object" "__setattr__" (.ref x) [.str name tk, v] [] _ SF.kind SF.split sub (SF.args (.ref x) (.str name tk) v) ?_)
  have hmr : Looks (model prog w) hp (mroOf (.ref C)) cd.mro := (looks_clsIn X hcd).andThen .now
  have L3 : Looks (model prog w) hp (storeTaker? none) none := .now
  have hcls : Looks (model prog w) hp (classData C) cd := looks_clsIn X hcd
  have hpass : refuseLoop (.ref x) "__setattr__" cd.mro = pure () := by
    rw [hm, refuseLoop_ref]
    show refuseLoop (.ref x) "__setattr__" (.ref CE :: ESX.exTail) = pure ()
    rw [refuseLoop_ref]
    exact F.store_Exception.passes _
  rw [osa_eq, refuse_eq]
  refine wpAny_bind (wpAny_bind (I.type.at (wpAny_bind (hmr.at ?_))))
  rw [hpass]
  refine wpAny_pure (wpAny_bind (I.type.at (wpAny_bind ((looks_findIn X ha).at (wpAny_bind (L3.at ?_))))))
  show wpAny _ _ (storeInOwnDict (.ref x) (.ref C) (.str name tk) name v false) _ _ _
  obtain ⟨nm, bs, mro, ns, qn, hd, sn, sb, ab, col, del⟩ := cd
  dsimp only at hh
  subst hh
  unfold storeInOwnDict ownDictForStores
  repeat (first | with_reducible refine store_in_new ?_ ?_ | with_reducible refine wpAny_loadPart_at hx ?_ | with_reducible refine hcls.at ?_ | wp_step)
  · exact ⟨_, #[], _, (Heap.get?_update_ne _ _ _ _ hxs.symm).trans (Heap.get?_push_at rfl rfl), rfl, fun e he => absurd he (by simp), fun _ => rfl⟩
  · intro h' tk' hn' hs
    have hx₁ : (hp.push { cls := .type "dict", data := .dict #[] }).get? x = some { cls := .ref C, data := .fields fv } := Heap.get?_push_of_some _ hx
    refine hq h' tk' hp.objs.size (fun b o hb ho => ?_) (Nat.le_refl _) hxs.symm ?_ hn'
    · exact (hs.2 b (Nat.ne_of_lt (Heap.lt_size ho))).trans ((Heap.get?_update_ne _ _ _ _ hb).trans (Heap.get?_push_of_some _ ho))
    · exact (hs.2 x hxs).trans (Heap.get?_update_self _ hx₁ rfl)
end
section
variable {prog : Program} {w : World} {A : Around} {E : Value → Shared → Prop} {R : Result → Shared → Prop} {s : Shared} {K : Frag} {mg : Str → Option Value} {base : Heap} {C CE fI : Addr}
theorem cls_of {h : Heap} {cd : ClassData} (X : K.In h) (hC : clsIn K C = some cd) : ∃ o, h.get? C = some o ∧ o.data = .cls cd := by
  unfold clsIn at hC
  split at hC
  · rename_i c d cd' sl ho
    cases hC
    exact ⟨_, X _ _ ho, rfl⟩
  · cases hC
theorem bad_l1 : (defScope sBad).names.lookup ("self" : Str) = some .local := by decide +kernel
theorem bad_l2 : (defScope sBad).names.lookup ("name" : Str) = some .local := by decide +kernel
theorem bad_init (T : BadTxt prog K mg C CE fI) (M : Mod K mg base) (kb : ∀ b o, base.get? b = some o → s.heap.get? b = some o) {x t0 : Addr} {v : Value} (hx : s.heap.get? x = some (excO C t0)) (hnx : K.lookup x = none) (hroom : A.depth < recursionLimit)
    (hq : ∀ h' tk dx t1, InitEnd s.heap h' x C dx t1 v → R (.ok (.ret .none)) { s with heap := h', toks := tk }) :
    codeAny (model prog w) A (.call (.ref fI) ⟨[.ref x, v], []⟩) R s := by
  obtain ⟨oc, od, doc, pm, an, cda, ct, osl, cc, kV, cl, cld, csl, ccl, cdd, vs, ccs, tf, ho, hcd, hcell, hcode, hvs⟩ := T.fn
  obtain ⟨nm, q, N, bs, sn, sub, ab, col, dd, k0, k1, k2', k3', k5, hC⟩ := T.cls
  have hcl : clsIn K C = some { name := nm, bases := bs, mro := .ref C :: exMro CE, ns := N, qualname := q, hasDict := true, slotNames := sn, subclasses := sub, abstract := ab, collection := col, hasDel := false } := by unfold clsIn; rw [hC] <;> rfl
  have X : K.In s.heap := M.kin.keeps kb
  have hlim : s.heap.NoLimit := M.nolimit.keeps kb
  refine ks_codeAny_call_defAt (fd := ksFn "__init__" "BadName.__init__" (defArgs sBad) (defBody sBad) (defScope sBad) .none kV doc pm an (.ref cda) ct cc) (body := defBody sBad) (binds := [("self", .ref x), ("name", v)])
    hroom (X _ _ ho) rfl hlim (codeRec_of X hcd) rfl (BindsTo.of_eq (by first | rfl | with_unfolding_all rfl)) (show ∀ x ∈ (defScope sBad).names, x.2 ≠ .cell by decide +kernel) (fun y hy => by rcases List.mem_cons.mp hy with rfl | hy; exact bad_l1; rw [List.mem_singleton.mp hy]; exact bad_l2) (fun h₁ hns hk₁ => ?_) rfl rfl rfl
  have X₁ : K.In h₁ := X.keeps hk₁
  have hx₁ := hk₁ _ _ hx
  have hLx : s.heap.objs.size ≠ x := Nat.ne_of_gt (Heap.lt_size hx)
  have hxC : x ≠ C := fun z => by rw [z, hC] at hnx; cases hnx
  obtain ⟨mb, hmb, hmbv⟩ := M.blt
  have kb₁ : ∀ b o, base.get? b = some o → h₁.get? b = some o := fun b o e => hk₁ b o (kb b o e)
  obtain ⟨oD, hD1, hD2⟩ := cls_of X₁ hcl
  -- super().__init__('a bad name')
  show PySem.wpAt _ _ _ (execs (.Expr (.Call (.Attribute (.Call (.Name "super" _) [] [] _) "__init__" _) [.Constant (.str "a bad name") 0 _] [] _) _ :: _) _) _ _ _
  refine ks_wpAt_execs_cons (ks_wpAt_Expr_any (ks_wpAt_MethodCall ?_))
  refine ks_wpAt_super_base (ar := { arg := "self", annotation := none, pos := ⟨6, 17, 6, 21⟩ }) rfl rfl (by decide +kernel) rfl (X₁ _ _ ho) rfl rfl rfl (X₁ _ _ hcode) rfl hvs T.file T.tops ?_
  refine ks_loadName_global rfl rfl (loadGlobal_builtin (M.glob.keeps kb₁) T.gS (hmb.keeps kb₁) ((hmbv _ (by decide +kernel)).trans (by decide +kernel)) ⟨rfl, ?_⟩)
  refine wpAny_loadName_free rfl rfl rfl ⟨_, X₁ _ _ hcell, rfl⟩ ?_
  refine wpAny_loadName_local rfl rfl hns (v := .ref x) (by first | rfl | with_unfolding_all rfl) ?_
  refine ks_wpAny_isType_cls hD1 hD2 ⟨rfl, ?_⟩
  have Ix : InstAt h₁ x (excO C t0) C none := ⟨hx₁, rfl, rfl, trivial⟩
  have hsubC : Looks (model prog w) h₁ (isSubtype (.ref C) (.ref C)) true := looks_mroIn X₁ (by unfold mroIn; rw [hcl, Option.bind_some, if_neg (by show ¬ (List.isEmpty (Value.ref C :: exMro CE) = true); exact Bool.false_ne_true)]; show some (List.contains (Value.ref C :: exMro CE) (.ref C)) = _; rw [List.contains_cons, beq_self_eq_true]; rfl)
  refine ks_wpAny_call_super hD1 hD2 hx₁ rfl (fun c e => by cases e) hsubC (fun h₂ e2 k2 => ?_)
  have X₂ : K.In h₂ := X₁.keeps k2
  have hx₂ := k2 _ _ hx₁
  have I2 : InstAt h₂ x (excO C t0) C none := ⟨hx₂, rfl, rfl, trivial⟩
  have hin : Looks (model prog w) h₂ (isInstance (.ref x) (.type "Exception")) true := I2.type.andThen (looks_subIn X₂ T.exE)
  refine ESX.getMethod_super (l₀ := .ref C :: exMro CE) e2 (looks_opaque X₂ T.hop) ((looks_clsIn X₂ hcl).andThen .now) (ESX.drop_own C _) X₂ T.along hxC (by decide +kernel) hin ?_
  have k3 : ∀ b o, h₂.get? b = some o → (h₂.push (ESX.bw x)).get? b = some o := fun b o e => Heap.get?_push_of_some _ e
  refine ESX.callWith_bound (x := x) (first := []) ?_ rfl rfl
  refine Calls.spliced_cons ?_
  refine Calls.Constant_str (k := 0) (pos := ⟨7, 25, 7, 37⟩) ?_
  refine Calls.spliced_nil ⟨Heap.get?_push_size _ rfl, ?_⟩
  have hCh : (h₂.push (ESX.bw x)).get? C = some (excClassObj nm q C N bs (exMro CE) true sn sub ab col dd k0 k1 k2' k3' k5 "Exception.__new__") := k3 _ _ (X₂ _ _ hC)
  refine ESX.call_bw hCh (k3 _ _ hx₂) (Heap.get?_push_size _ rfl) (by rw [sizeLine_eq]; show 1 ≤ 16777216; decide) fun h₃ t1 k4 hx₃ => ?_
  -- self.name = name
  have k34 : ∀ b o, b ≠ x → h₁.get? b = some o → h₃.get? b = some o := fun b o hb e => k4 b o hb (k3 b o (k2 b o e))
  have hns₃ : h₃.Ns s.heap.objs.size (fun y => ([("self", Value.ref x), ("name", v)] : List (Str × Value)).reverse.lookup y) := hns.at fun o e => k34 _ o hLx e
  have X₃ : K.In h₃ := fun a o e => k34 a o (fun z => by rw [z, hnx] at e; cases e) (X₁ a o e)
  refine wpAt_of_wpAny (wpAny_execs_cons (plainObj_wpAny_Assign_Attribute ?_))
  refine wpAny_Name (wpAny_loadName_local rfl rfl hns₃ (v := v) (by first | rfl | with_unfolding_all rfl) ?_) (by decide +kernel)
  refine wpAny_Name (wpAny_loadName_local rfl rfl hns₃ (v := .ref x) (by first | rfl | with_unfolding_all rfl) ?_) (by decide +kernel)
  refine set_plain X₃ (ox := excO C t1) (od := none) ⟨hx₃, rfl, rfl, trivial⟩ T.sa ?_
  refine osa_new (CE := CE) X₃ hx₃ hcl rfl rfl T.noN (fun h₄ tk₄ dx k₅ dn dne hx₄ hn₄ => ?_)
  show wpAny _ _ (execs _ _) _ _ _
  have z3 : s.heap.objs.size < h₃.objs.size := hns₃.lt
  exact wpAny_execs_nil (hq h₄ tk₄ dx t1 ⟨fun b o hb e => k₅ b o hb (k34 b o hb (hk₁ b o e)), hx₄, Nat.le_of_lt (Nat.lt_of_lt_of_le z3 dn), dne, hn₄⟩)
theorem bad_made (T : BadTxt prog K mg C CE fI) (M : Mod K mg base) (kb : ∀ b o, base.get? b = some o → s.heap.get? b = some o) {v : Value} (hroom : A.depth + 1 < recursionLimit)
    (hq : ∀ h' tk e d, OwnMade s.heap h' e C d v → R (.ok (.ret (.ref e))) { s with heap := h', toks := tk }) :
    codeAny (model prog w) A (.call (.ref C) ⟨[v], []⟩) R s := by
  obtain ⟨nm, q, N, bs, sn, sub, ab, col, dd, k0, k1, k2', k3', k5, hC⟩ := T.cls
  obtain ⟨hp, g, dr, tk, os⟩ := s
  have X : K.In hp := M.kin.keeps kb
  have k : ∀ b o, hp.get? b = some o → ((hp.push (kdv_tup [v])).push (excO C hp.objs.size)).get? b = some o := fun b o e => Heap.get?_push_of_some _ (Heap.get?_push_of_some _ e)
  have hget : ((hp.push (kdv_tup [v])).push (excO C hp.objs.size)).get? (hp.objs.size + 1) = some (excO C hp.objs.size) := by heap_get
  have hnx : K.lookup (hp.objs.size + 1) = none := by
    cases e : K.lookup (hp.objs.size + 1) with
    | none => rfl
    | some o =>
      have z : hp.get? (hp.objs.size + 1) = some o := X _ _ e
      exact absurd (Nat.lt_of_succ_lt (Heap.lt_size z)) (Nat.lt_irrefl _)
  refine call_own F.excBase_Exception (fun Y => exMro_contains CE Y) (X _ _ hC) (looks_findIn X T.iC) (fun self => bind_fn X self T.tC) (by show 1 ≤ sizeLine; rw [sizeLine_eq]; decide) ?_
  refine bad_init (s := ⟨(hp.push (kdv_tup [v])).push (excO C hp.objs.size), g, dr, tk, os⟩) T M (fun b o e => k b o (kb b o e)) hget hnx ?_ fun h' tk' dx t1 ⟨k', hx, dn, dne, hns⟩ => ?_
  · show A.depth + 1 < recursionLimit
    exact hroom
  · have old : ∀ b o, hp.get? b = some o → h'.get? b = some o := fun b o e => k' b o (Nat.ne_of_lt (Nat.lt_succ_of_lt (Heap.lt_size e))) (k b o e)
    have z : hp.objs.size + 1 + 1 ≤ dx := by
      first
        | (simpa only [Heap.size_push] using dn)
        | exact dn
        | (have q := dn; rw [Heap.size_push, Heap.size_push] at q; exact q)
    exact ⟨rfl, hq h' tk' (hp.objs.size + 1) dx ⟨old, Nat.le_succ _, ⟨_, _, hx, rfl, rfl, rfl, rfl⟩, Nat.le_trans (Nat.le_trans (Nat.le_succ _) (Nat.le_succ _)) z, dne, hns⟩⟩
end
end K49X
end PySem
namespace L2
open PySem PySem.Spec PyProof.Rows
theorem relO_bad {v : V} {v' : Value} (r : RelV v v') (f : Str) : RelO (List.lookup f [(("name" : Str), v)]) (if f = "name" then some v' else none) := by
  by_cases hw : f = "name"
  · subst hw
    rw [if_pos rfl]
    have q : List.lookup ("name" : Str) [(("name" : Str), v)] = some v := by simp [List.lookup]
    rw [q]
    exact r
  · rw [if_neg hw]
    have qw : (f == ("name" : Str)) = false := by simpa using hw
    have q2 : List.lookup f [(("name" : Str), v)] = none := by simp [List.lookup, qw]
    rw [q2]
    trivial
section
variable {X : Cx} {C CE fI : Addr}
/-- BadName(e) -/
def tMkBad (C : Addr) (ta : TA) : St → Hp → XK → Prop := fun σ H Q => ta σ H fun vs H1 => ∃ v, vs = [v] ∧ ∀ d, H1 d = none → Q (.ref C) (some d) (upd H1 d (.xd [(("name" : Str), v)]))
theorem pmk_bad {a : Expr} {ta : TA} {p pos : Pos} {k : Nat} (T : PySem.K49X.BadTxt X.prog X.K X.mg C CE fI) (hr : Room k X.A) (ha : PA X [a] ta) (hg : Gl X "BadName" := by rfl)
    (he : starEach (a :: []) X.env = (false, eval a X.env) :: starEach [] X.env := by rfl) (hpl : (backTo pos (starEach [] X.env)).any (·.1) = false := by rfl) :
    PMk X (.Call (.Name "BadName" p) [a] [] pos) (tMkBad C ta) := by
  intro pins s σ H Q I h
  refine wpAny_Call_Name_kw (ld_glob I hg T.gC ?_)
  refine PySem.W.callWith_K (h₀ := X.base) I.ok.mod.kin T.kC (thn (ha.run pos pins s σ H _ I h) fun us s1 hh => ?_) he hpl
  obtain ⟨vs, H1, I1, r1, v, ev, q1⟩ := hh
  subst ev
  refine ⟨I1.kIn, ?_⟩
  cases r1 with
  | cons rv rn =>
    rename_i v' us'
    cases rn
    show wpAny _ _ (call (.ref C) [v']) _ _ _
    have hbk := I1.bk
    obtain ⟨hp, g, dr, tk, os⟩ := s1
    refine wpAny_call (PySem.K49X.bad_made T I1.mod hbk (by have := hr.dp; omega) fun h' tk' e d M => ?_)
    show MkP X pins σ Q (.ref e) ⟨h', g, dr, tk', os⟩
    obtain ⟨oe, fv, hoe, hc, hd, hdat, h1⟩ := M.obj
    have hns := M.ns
    obtain ⟨G', g1, g2⟩ := restrict h' fun b => decide (b ≠ e)
    have gk : ∀ b, b ≠ e → G'.get? b = h'.get? b := fun b hb => g1 b (decide_eq_true hb)
    have ge : G'.get? e = none := g2 e (by simp)
    have old : ∀ b o, hp.get? b = some o → G'.get? b = some o := fun b o q => (gk b (Nat.ne_of_lt (Nat.lt_of_lt_of_le (Heap.lt_size q) M.new))).trans (M.keep b o q)
    have ob : ObjOk X.prog X.w (upd H1 d (.xd [(("name" : Str), v)])) G' d (.xd [(("name" : Str), v)]) :=
      ⟨_, hns.at (fun o q => (gk d M.dne).trans q), fun f => relO_bad rv f⟩
    have J : Inv X pins σ (upd H1 d (.xd [(("name" : Str), v)])) ⟨G', g, dr, tk', os⟩ := I1.laid (t' := tk') old M.dbig ob
    refine ⟨e, oe, fv, ⟨G', g, dr, tk', os⟩, _, .ref C, some d, rfl, J, fun b o q => ?_, ge, hoe, ⟨hc, hd⟩, hdat, h1, ?_, rfl, I1.bare, raises_own T.exC T.tyC, q1 d (I1.hok.fresh M.dbig)⟩
    · by_cases hb : b = e
      · have q' : G'.get? b = some o := q
        rw [hb, ge] at q'; cases q'
      · exact (gk b hb).symm.trans q
    · rw [upd_ne (Ne.symm M.dne)]
      exact I1.hok.fresh M.new
/-- raise BadName(e) -/
def tRaiseBad (C : Addr) (W : WX) (ta : TA) : TS := fun _ σ H => tMkBad C ta σ H fun cls d H' => W cls d σ H'
theorem ps_raiseBad {a : Expr} {ta : TA} {W : WX} {p pos pos2 : Pos} {k : Nat} (hc : X.calm = true) (T : PySem.K49X.BadTxt X.prog X.K X.mg C CE fI) (hr : Room k X.A) (tk : Takes X W) (ha : PA X [a] ta) (hg : Gl X "BadName" := by rfl)
    (he : starEach (a :: []) X.env = (false, eval a X.env) :: starEach [] X.env := by rfl) (hpl : (backTo pos (starEach [] X.env)).any (·.1) = false := by rfl) :
    PS X (.Raise (some (.Call (.Name "BadName" p) [a] [] pos)) none pos2) (tRaiseBad C W ta) := ps_raise hc tk (pmk_bad T hr ha hg he hpl)
/-- fault.name, fault the error that the suite holds -/
def tByBad (C : Addr) (a : Addr) (cls : Value) (d : Option Addr) (te : TE) : TE := fun σ H Q => te σ H fun x H1 => x = .ref a ∧ cls = .ref C ∧ ∃ (dd : Addr) (v : V), d = some dd ∧ H1 dd = some (.xd [(("name" : Str), v)]) ∧ Q v H1
theorem pe_byBad {a : Addr} {oe : Obj} {cls : Value} {d : Option Addr} {pn : List (Addr × Obj)} {e : Expr} {te : TE} {pos : Pos} (T : PySem.K49X.BadTxt X.prog X.K X.mg C CE fI) (hz : Zc cls d oe) (hf : ∃ vs, oe.data = .fields vs) (he : PE (X.suite a ((a, oe) :: pn)) e te)
    (hb : attributeBase e "name" X.env (eval e X.env) = eval e X.env := by rfl) :
    PE (X.suite a ((a, oe) :: pn)) (.Attribute e "name" pos) (tByBad C a cls d te) := by
  refine ⟨fun pins s σ H Q I h => ?_⟩
  refine attr_of hb (thn (he.run pins s σ H _ I h) fun u s1 hh => ?_)
  obtain ⟨x, H1, I1, rx, ex, ec, dd, v, ed, ea, q⟩ := hh
  subst ex
  obtain rfl : u = Value.ref a := rx
  subst ec
  subst ed
  have ha : s1.heap.get? a = some oe := (I1.pin (a, oe) (List.mem_append_left _ (List.mem_cons_self ..))).1
  obtain ⟨vs, hd⟩ := hf
  have hx : ObjOk X.prog X.w H1 s1.heap dd (.xd [(("name" : Str), v)]) := I1.hok dd _ ea
  obtain ⟨mA, hns, hr⟩ := hx
  obtain ⟨od, ho, hl⟩ := lookIn_ns hns
  have l : List.lookup ("name" : Str) [(("name" : Str), v)] = some v := by simp [List.lookup]
  obtain ⟨u, hu, ru⟩ := RelO.some_of (v := v) (o := mA "name") (by rw [← l]; exact hr "name")
  have J : PySem.W.InstAt s1.heap a oe C (some od) := ⟨ha, hz.1, by unfold PySem.W.notCls; rw [hd] <;> rfl, by rw [hz.2]; exact ho⟩
  exact HandSPX.exc_get I1.kIn J T.ga T.gg T.exC (PySem.W.findObj_own T.hdC T.noN rfl (by rw [hl, hu])) (handed_of ru) ⟨v, H1, I1.tok _, ru, q⟩
end
end L2

/-! K49P: the mirror's things in the heap: tuples of data (they never change), keepers, sequencers; what a call keeps; data for ==. -/
namespace K49
open PySem PySem.Spec PyProof.Rows L2
/-! ### what a call keeps -/
/-- all but what M says is as it was, and every tuple -/
structure Kpt (M : Addr → Prop) (H H' : Hp) : Prop where
  keep : ∀ b o, H b = some o → ¬ M b → H' b = some o
  tup : ∀ b xs, H b = some (.tup xs) → H' b = some (.tup xs)
abbrev TupS (H H' : Hp) : Prop := ∀ b xs, H b = some (.tup xs) → H' b = some (.tup xs)
abbrev No : Addr → Prop := fun _ => False
section
variable {M N : Addr → Prop} {H H1 H2 : Hp} {p : Addr} {o : HO}
theorem Kpt.refl : Kpt M H H := ⟨fun _ _ h _ => h, fun _ _ h => h⟩
theorem Kpt.trans (a : Kpt M H H1) (b : Kpt M H1 H2) : Kpt M H H2 := ⟨fun c o h n => b.keep c o (a.keep c o h n) n, fun c xs h => b.tup c xs (a.tup c xs h)⟩
/-- what changed second was there at first or was new -/
theorem Kpt.then (a : Kpt M H H1) (b : Kpt N H1 H2) (h : ∀ c, N c → M c ∨ H c = none) : Kpt M H H2 :=
  ⟨fun c o e n => b.keep c o (a.keep c o e n) (fun z => by rcases h c z with z | z; exact n z; rw [z] at e; cases e), fun c xs e => b.tup c xs (a.tup c xs e)⟩
theorem Kpt.mono (a : Kpt M H H1) (h : ∀ c, M c → N c) : Kpt N H H1 := ⟨fun c o e n => a.keep c o e fun z => n (h c z), a.tup⟩
theorem Kpt.new (hp : H p = none) : Kpt M H (upd H p o) := ⟨fun c u e _ => by rw [upd_ne (ne_of_none e hp)]; exact e, fun c xs e => by rw [upd_ne (ne_of_none e hp)]; exact e⟩
theorem Kpt.wr (hm : M p) {u : HO} (hp : H p = some u) (ht : ∀ xs, u ≠ .tup xs) : Kpt M H (upd H p o) :=
  ⟨fun c u' e n => by rw [upd_ne (fun z => n (by rw [z]; exact hm))]; exact e, fun c xs e => by rw [upd_ne (ne_of e hp (fun z => ht xs z.symm))]; exact e⟩
theorem Kpt.same_of {q : Addr} {u : HO} (_ : Kpt M H (upd H q u)) (nq : H q = none) (hp : H p = some o) : upd H q u p = some o := by rw [upd_ne (ne_of_none hp nq)]; exact hp
theorem Kpt.same (a : Kpt No H H1) : Same H H1 := fun b o e => a.keep b o e fun z => z
theorem Kpt.of_same (a : Same H H1) : Kpt M H H1 := ⟨fun b o e _ => a b o e, fun b xs e => a b _ e⟩
theorem Kpt.up (a : Kpt M H H1) (n : H p = none) : Kpt M H (upd H1 p o) :=
  ⟨fun c u e m => by rw [upd_ne (ne_of_none e n)]; exact a.keep c u e m, fun c xs e => by rw [upd_ne (ne_of_none e n)]; exact a.tup c xs e⟩
theorem Kpt.free (a : Kpt M H H1) {l : Addr} (h : H1 l = none) : M l ∨ H l = none := by
  cases q : H l with
  | none => exact .inr rfl
  | some o =>
    by_cases m : M l
    · exact .inl m
    · rw [a.keep l o q m] at h; cases h
theorem Kpt.seqL {K : PySem.W.Frag} {a : Addr} {xs : List V} (k : Kpt M H H1) (h : SqL K H a xs) (n : ¬ M a) : SqL K H1 a xs := by
  rcases h with (h | ⟨o, h⟩) | h
  · exact .inl (.inl (k.keep _ _ h n))
  · exact .inl (.inr ⟨o, k.keep _ _ h n⟩)
  · exact .inr h
end
theorem lst_tup {xs : List V} : ∀ ys, HO.lst xs ≠ .tup ys := fun _ z => by cases z
theorem dK_tup {xs : List (Key × V)} : ∀ ys, HO.dK xs ≠ .tup ys := fun _ z => by cases z
theorem ins_tup {C dx : Addr} {fs : List (Str × V)} : ∀ ys, HO.ins C dx fs ≠ .tup ys := fun _ z => by cases z
theorem sqT {K : PySem.W.Frag} {H : Hp} {a : Addr} {xs : List V} (h : H a = some (.tup xs)) : SqT K H a xs := .inl (.inl h)
theorem sqL {K : PySem.W.Frag} {H : Hp} {a : Addr} {xs : List V} (h : H a = some (.lst xs)) : SqL K H a xs := .inl (.inl h)
/-! ### pairs of lists -/
theorem Pd.get {α β : Type} {F : α → β → Prop} : ∀ {xs : List α} {ys : List β}, Paired F xs ys → ∀ {i : Nat} {y : β}, ys[i]? = some y → ∃ x, xs[i]? = some x ∧ F x y
  | _, _, .nil, i, y, h => by simp at h
  | _, _, .cons r t, 0, y, h => by
    have e := Option.some.inj h
    subst e
    exact ⟨_, rfl, r⟩
  | _, _, .cons r t, i + 1, y, h => Pd.get t (i := i) (by simpa using h)
theorem Pd.getL {α β : Type} {F : α → β → Prop} : ∀ {xs : List α} {ys : List β}, Paired F xs ys → ∀ {i : Nat} {x : α}, xs[i]? = some x → ∃ y, ys[i]? = some y ∧ F x y
  | _, _, .nil, i, y, h => by simp at h
  | _, _, .cons r t, 0, y, h => by
    have e := Option.some.inj h
    subst e
    exact ⟨_, rfl, r⟩
  | _, _, .cons r t, i + 1, y, h => Pd.getL t (i := i) (by simpa using h)
theorem Pd.app {α β : Type} {F : α → β → Prop} : ∀ {xs xs' : List α} {ys ys' : List β}, Paired F xs ys → Paired F xs' ys' → Paired F (xs ++ xs') (ys ++ ys')
  | _, _, _, _, .nil, s => s
  | _, _, _, _, .cons r t, s => .cons r (Pd.app t s)
theorem Pd.take {α β : Type} {F : α → β → Prop} : ∀ {xs : List α} {ys : List β} (n : Nat), Paired F xs ys → Paired F (xs.take n) (ys.take n)
  | _, _, 0, _ => .nil
  | _, _, _ + 1, .nil => .nil
  | _, _, n + 1, .cons r t => .cons r (Pd.take n t)
theorem Pd.drop {α β : Type} {F : α → β → Prop} : ∀ {xs : List α} {ys : List β} (n : Nat), Paired F xs ys → Paired F (xs.drop n) (ys.drop n)
  | _, _, 0, r => r
  | _, _, _ + 1, .nil => .nil
  | _, _, n + 1, .cons _ t => Pd.drop n t
theorem Pd.set {α β : Type} {F : α → β → Prop} {x : α} {y : β} (r : F x y) : ∀ {xs : List α} {ys : List β} (n : Nat), Paired F xs ys → Paired F (xs.set n x) (ys.set n y)
  | _, _, _, .nil => .nil
  | _, _, 0, .cons _ t => .cons r t
  | _, _, n + 1, .cons q t => .cons q (Pd.set r n t)
theorem Pd.erase {α β : Type} {F : α → β → Prop} : ∀ {xs : List α} {ys : List β} (n : Nat), Paired F xs ys → Paired F (xs.eraseIdx n) (ys.eraseIdx n)
  | _, _, _, .nil => .nil
  | _, _, 0, .cons _ t => t
  | _, _, n + 1, .cons q t => .cons q (Pd.erase n t)
theorem Pd.mono {α β : Type} {F G : α → β → Prop} (h : ∀ a b, F a b → G a b) {xs : List α} {ys : List β} (r : Paired F xs ys) : Paired G xs ys := Paired.mapP r h
theorem Pd.map {α β γ : Type} {F : α → γ → Prop} (f : β → γ) (g : β → α) (h : ∀ b, F (g b) (f b)) : ∀ l : List β, Paired F (l.map g) (l.map f)
  | [] => .nil
  | b :: l => .cons (h b) (Pd.map f g h l)
/-! ### data -/
def PrV (H : Hp) (v : V) (q : Pr) : Prop := ∃ a, v = .ref a ∧ H a = some (.tup [.int q.1, .int q.2])
def RowV (H : Hp) (v : V) (r : List Pr) : Prop := ∃ a vs, v = .ref a ∧ H a = some (.tup vs) ∧ Paired (PrV H) vs r
def RcV (H : Hp) (v : V) : Rc → Prop
  | .pr e => ∃ a, v = .ref a ∧ H a = some (.tup [.str "promise", .int e])
  | .tk e p x => ∃ a, v = .ref a ∧ H a = some (.tup [.str "take", .int e, .int p, .int x])
def LtV (H : Hp) (v : V) : Lt → Prop
  | .ask e n => ∃ a, v = .ref a ∧ H a = some (.tup [.str "ask", .int e, .int n])
  | .write e n p x => ∃ a, v = .ref a ∧ H a = some (.tup [.str "write", .int e, .int n, .int p, .int x])
  | .refused e n k => ∃ a, v = .ref a ∧ H a = some (.tup [.str "refused", .int e, .int n, .int k])
  | .told e n row => ∃ a r, v = .ref a ∧ H a = some (.tup [.str "told", .int e, .int n, r]) ∧ RowV H r row
  | .taken e n p => ∃ a, v = .ref a ∧ H a = some (.tup [.str "taken", .int e, .int n, .int p])
def RcsV (H : Hp) (v : V) (l : List Rc) : Prop := ∃ a vs, v = .ref a ∧ H a = some (.tup vs) ∧ Paired (RcV H) vs l
def LtsV (H : Hp) (v : V) (l : List Lt) : Prop := ∃ a vs, v = .ref a ∧ H a = some (.tup vs) ∧ Paired (LtV H) vs l
section
variable {H H' : Hp} {v : V}
theorem PrV.mono (t : TupS H H') {q : Pr} (h : PrV H v q) : PrV H' v q := let ⟨a, e, x⟩ := h; ⟨a, e, t _ _ x⟩
theorem RowV.mono (t : TupS H H') {r : List Pr} (h : RowV H v r) : RowV H' v r := let ⟨a, vs, e, x, y⟩ := h; ⟨a, vs, e, t _ _ x, Pd.mono (fun _ _ z => z.mono t) y⟩
theorem RcV.mono (t : TupS H H') {q : Rc} (h : RcV H v q) : RcV H' v q := by
  cases q with
  | pr e => obtain ⟨a, e, x⟩ := h; exact ⟨a, e, t _ _ x⟩
  | tk e p x => obtain ⟨a, e, x⟩ := h; exact ⟨a, e, t _ _ x⟩
theorem LtV.mono (t : TupS H H') {q : Lt} (h : LtV H v q) : LtV H' v q := by
  cases q with
  | ask e n => obtain ⟨a, e, x⟩ := h; exact ⟨a, e, t _ _ x⟩
  | write e n p x => obtain ⟨a, e, x⟩ := h; exact ⟨a, e, t _ _ x⟩
  | refused e n k => obtain ⟨a, e, x⟩ := h; exact ⟨a, e, t _ _ x⟩
  | told e n row => obtain ⟨a, r, e, x, y⟩ := h; exact ⟨a, r, e, t _ _ x, y.mono t⟩
  | taken e n p => obtain ⟨a, e, x⟩ := h; exact ⟨a, e, t _ _ x⟩
theorem RcsV.mono (t : TupS H H') {l : List Rc} (h : RcsV H v l) : RcsV H' v l := let ⟨a, vs, e, x, y⟩ := h; ⟨a, vs, e, t _ _ x, Pd.mono (fun _ _ z => z.mono t) y⟩
theorem LtsV.mono (t : TupS H H') {l : List Lt} (h : LtsV H v l) : LtsV H' v l := let ⟨a, vs, e, x, y⟩ := h; ⟨a, vs, e, t _ _ x, Pd.mono (fun _ _ z => z.mono t) y⟩
end
/-- a letter's word -/
def Lt.word : Lt → Str
  | .ask _ _ => "ask" | .write _ _ _ _ => "write" | .refused _ _ _ => "refused" | .told _ _ _ => "told" | .taken _ _ _ => "taken"
/-- a letter's first three items -/
theorem LtV.three {H : Hp} {v : V} {l : Lt} (h : LtV H v l) : ∃ a r, v = .ref a ∧ H a = some (.tup (.str l.word :: .int l.ep :: .int l.num :: r)) := by
  cases l with
  | ask e n => obtain ⟨a, e, x⟩ := h; exact ⟨a, _, e, x⟩
  | write e n p x => obtain ⟨a, e, x⟩ := h; exact ⟨a, _, e, x⟩
  | refused e n k => obtain ⟨a, e, x⟩ := h; exact ⟨a, _, e, x⟩
  | told e n row => obtain ⟨a, r, e, x, y⟩ := h; exact ⟨a, _, e, x⟩
  | taken e n p => obtain ⟨a, e, x⟩ := h; exact ⟨a, _, e, x⟩
/-! ### objects -/
def rf (e : Int) (l : Addr) : List (Str × V) := [("epoch", .int e), ("row", .ref l)]
def kf (n : Nat) (r l w : V) : List (Str × V) := [("number", .int n), ("records", r), ("loose", l), ("waiting", w)]
def sf (e : Int) (m : Nat) (st : Str) (d l t : Addr) : List (Str × V) := [("epoch", .int e), ("many", .int m), ("stand", .str st), ("rows", .ref d), ("row", .ref l), ("taken", .ref t)]
def cf (k s l : Addr) : List (Str × V) := [("keepers", .ref k), ("sequencers", .ref s), ("letters", .ref l)]
def Sd.str : Sd → Str
  | .asking => "asking" | .leading => "leading" | .stopped => "stopped"
/-- a Record at r, its row's list at l -/
def RsAt (C : Addr) (H : Hp) (r l : Addr) (x : RS) : Prop := ∃ dx vs, H r = some (.ins C dx (rf x.ep l)) ∧ H l = some (.lst vs) ∧ Paired (PrV H) vs x.row
def KpAt (C : Addr) (H : Hp) (p : Addr) (k : Kp) : Prop := ∃ dx r l w, H p = some (.ins C dx (kf k.num r l w)) ∧ RcsV H r k.recs ∧ RcsV H l k.loose ∧ LtsV H w k.wait
theorem KpAt.mono {C : Addr} {H H' : Hp} {p : Addr} {k : Kp} {M : Addr → Prop} (x : KpAt C H p k) (h : Kpt M H H') (n : ¬ M p) : KpAt C H' p k :=
  let ⟨dx, r, l, w, a, b, c, d⟩ := x; ⟨dx, r, l, w, h.keep _ _ a n, b.mono h.tup, c.mono h.tup, d.mono h.tup⟩
structure SA where
  p : Addr
  d : Addr
  l : Addr
  t : Addr
def SA.mem (a : SA) (b : Addr) : Prop := b = a.p ∨ b = a.d ∨ b = a.l ∨ b = a.t
def RwV (H : Hp) (kv : Key × V) (q : Nat × List Pr) : Prop := kv.1 = .inl (q.1 : Int) ∧ RowV H kv.2 q.2
def tkD : Nat → List Nat → List (Key × V)
  | _, [] => []
  | i, n :: r => (.inl (i : Int), .int (n : Int)) :: tkD (i + 1) r
structure SqAt (C : Addr) (H : Hp) (a : SA) (s : Sq) : Prop where
  ob : ∃ dx, H a.p = some (.ins C dx (sf s.ep s.many s.st.str a.d a.l a.t))
  rows : ∃ kvs, H a.d = some (.dK kvs) ∧ Paired (RwV H) kvs s.rows
  row : H a.l = some (.lst (s.row.map V.int))
  tk : H a.t = some (.dK (tkD 0 s.tk))
  dt : a.d ≠ a.t
theorem SqAt.mono {C : Addr} {H H' : Hp} {a : SA} {s : Sq} {M : Addr → Prop} (x : SqAt C H a s) (h : Kpt M H H') (n : ∀ b, a.mem b → ¬ M b) : SqAt C H' a s :=
  ⟨let ⟨dx, e⟩ := x.ob; ⟨dx, h.keep _ _ e (n _ (.inl rfl))⟩, let ⟨kvs, e, q⟩ := x.rows; ⟨kvs, h.keep _ _ e (n _ (.inr (.inl rfl))), Pd.mono (fun _ _ z => ⟨z.1, z.2.mono h.tup⟩) q⟩,
    h.keep _ _ x.row (n _ (.inr (.inr (.inl rfl)))), h.keep _ _ x.tk (n _ (.inr (.inr (.inr rfl)))), x.dt⟩
theorem SqAt.there {C : Addr} {H : Hp} {a : SA} {s : Sq} (x : SqAt C H a s) {b : Addr} (hb : a.mem b) : H b ≠ none := by
  obtain ⟨dx, e⟩ := x.ob
  obtain ⟨kvs, e2, _⟩ := x.rows
  rcases hb with rfl | rfl | rfl | rfl
  · rw [e]; exact fun z => by cases z
  · rw [e2]; exact fun z => by cases z
  · rw [x.row]; exact fun z => by cases z
  · rw [x.tk]; exact fun z => by cases z
/-! fields -/
section
variable {e : Int} {n m : Nat} {r l w : V} {st : Str} {k s d t a : Addr}
theorem rf_ep : (rf e a).lookup ("epoch" : Str) = some (.int e) := by rfl
theorem rf_row : (rf e a).lookup ("row" : Str) = some (.ref a) := by rfl
theorem kf_num : (kf n r l w).lookup ("number" : Str) = some (.int n) := by rfl
theorem kf_rec : (kf n r l w).lookup ("records" : Str) = some r := by rfl
theorem kf_loo : (kf n r l w).lookup ("loose" : Str) = some l := by rfl
theorem kf_wai : (kf n r l w).lookup ("waiting" : Str) = some w := by rfl
theorem sf_ep : (sf e m st d a t).lookup ("epoch" : Str) = some (.int e) := by rfl
theorem sf_many : (sf e m st d a t).lookup ("many" : Str) = some (.int m) := by rfl
theorem sf_st : (sf e m st d a t).lookup ("stand" : Str) = some (.str st) := by rfl
theorem sf_rows : (sf e m st d a t).lookup ("rows" : Str) = some (.ref d) := by rfl
theorem sf_row : (sf e m st d a t).lookup ("row" : Str) = some (.ref a) := by rfl
theorem sf_tk : (sf e m st d a t).lookup ("taken" : Str) = some (.ref t) := by rfl
theorem cf_k : (cf k s a).lookup ("keepers" : Str) = some (.ref k) := by rfl
theorem cf_s : (cf k s a).lookup ("sequencers" : Str) = some (.ref s) := by rfl
theorem cf_l : (cf k s a).lookup ("letters" : Str) = some (.ref a) := by rfl
theorem rf_pe {e' : Int} : putF "epoch" (.int e') (rf e a) = rf e' a := by rfl
theorem kf_pr {r' : V} : putF "records" r' (kf n r l w) = kf n r' l w := by rfl
theorem kf_pl {l' : V} : putF "loose" l' (kf n r l w) = kf n r l' w := by rfl
theorem kf_pw {w' : V} : putF "waiting" w' (kf n r l w) = kf n r l w' := by rfl
theorem sf_pst {st' : Str} : putF "stand" (.str st') (sf e m st d a t) = sf e m st' d a t := by rfl
theorem sf_prow {a' : Addr} : putF "row" (.ref a') (sf e m st d a t) = sf e m st d a' t := by rfl
end
theorem upd_ins {H : Hp} {p C dx : Addr} {fs fs' : List (Str × V)} (h : fs = fs') : upd H p (.ins C dx fs) p = some (.ins C dx fs') := by rw [h]; exact upd_same
theorem at0 {a : V} {r : List V} : atI (a :: r) 0 = some a := atI_nat (j := 0) rfl
theorem at1 {a b : V} {r : List V} : atI (a :: b :: r) 1 = some b := atI_nat (j := 1) rfl
theorem at2 {a b c : V} {r : List V} : atI (a :: b :: c :: r) 2 = some c := atI_nat (j := 2) rfl
theorem at3 {a b c d : V} {r : List V} : atI (a :: b :: c :: d :: r) 3 = some d := atI_nat (j := 3) rfl
theorem at4 {a b c d e : V} {r : List V} : atI (a :: b :: c :: d :: e :: r) 4 = some e := atI_nat (j := 4) rfl
theorem small {n : Nat} (h : n ≤ 100000) : n ≤ sizeLine := Nat.le_trans h (by rw [sizeLine_eq]; decide)
theorem smallT {n : Nat} (h : n ≤ 100000) : n < sizeLine := Nat.lt_of_le_of_lt h (by rw [sizeLine_eq]; decide)
/-! ### data for == -/
def prD (q : Pr) : PyData := .tuple [.int q.1, .int q.2]
def rowD (r : List Pr) : PyData := .tuple (r.map prD)
def rcD : Rc → PyData
  | .pr e => .tuple [.str "promise", .int e]
  | .tk e p x => .tuple [.str "take", .int e, .int p, .int x]
def ltD : Lt → PyData
  | .ask e n => .tuple [.str "ask", .int e, .int n]
  | .write e n p x => .tuple [.str "write", .int e, .int n, .int p, .int x]
  | .refused e n k => .tuple [.str "refused", .int e, .int n, .int k]
  | .told e n row => .tuple [.str "told", .int e, .int n, rowD row]
  | .taken e n p => .tuple [.str "taken", .int e, .int n, .int p]
section
variable {K : PySem.W.Frag} {H : Hp} {v : V}
theorem dpAll {α : Type} {F : V → α → Prop} {f : α → PyData} (h : ∀ v x, F v x → Dp K H v (f x)) : ∀ {vs : List V} {l : List α}, Paired F vs l → DpAll K H vs (l.map f)
  | _, _, .nil => .nil
  | _, _, .cons r t => .cons (h _ _ r) (dpAll h t)
theorem PrV.dp {q : Pr} (h : PrV H v q) : Dp K H v (prD q) := by
  obtain ⟨a, rfl, x⟩ := h
  exact .tup (sqT x) (.cons (.int _) (.cons (.int _) .nil))
theorem RowV.dp {r : List Pr} (h : RowV H v r) : Dp K H v (rowD r) := by
  obtain ⟨a, vs, rfl, x, y⟩ := h
  exact .tup (sqT x) (dpAll (fun _ _ z => z.dp) y)
theorem RcV.dp {q : Rc} (h : RcV H v q) : Dp K H v (rcD q) := by
  cases q with
  | pr e => obtain ⟨a, rfl, x⟩ := h; exact .tup (sqT x) (.cons (.str _) (.cons (.int _) .nil))
  | tk e p y => obtain ⟨a, rfl, x⟩ := h; exact .tup (sqT x) (.cons (.str _) (.cons (.int _) (.cons (.int _) (.cons (.int _) .nil))))
theorem LtV.dp {q : Lt} (h : LtV H v q) : Dp K H v (ltD q) := by
  cases q with
  | ask e n => obtain ⟨a, rfl, x⟩ := h; exact .tup (sqT x) (.cons (.str _) (.cons (.int _) (.cons (.int _) .nil)))
  | write e n p y => obtain ⟨a, rfl, x⟩ := h; exact .tup (sqT x) (.cons (.str _) (.cons (.int _) (.cons (.int _) (.cons (.int _) (.cons (.int _) .nil)))))
  | refused e n k => obtain ⟨a, rfl, x⟩ := h; exact .tup (sqT x) (.cons (.str _) (.cons (.int _) (.cons (.int _) (.cons (.int _) .nil))))
  | told e n row => obtain ⟨a, r, rfl, x, y⟩ := h; exact .tup (sqT x) (.cons (.str _) (.cons (.int _) (.cons (.int _) (.cons y.dp .nil))))
  | taken e n p => obtain ⟨a, rfl, x⟩ := h; exact .tup (sqT x) (.cons (.str _) (.cons (.int _) (.cons (.int _) (.cons (.int _) .nil))))
theorem RcsV.dp {l : List Rc} (h : RcsV H v l) : Dp K H v (.tuple (l.map rcD)) := by
  obtain ⟨a, vs, rfl, x, y⟩ := h
  exact .tup (sqT x) (dpAll (fun _ _ z => z.dp) y)
theorem LtsV.dp {l : List Lt} (h : LtsV H v l) : Dp K H v (.tuple (l.map ltD)) := by
  obtain ⟨a, vs, rfl, x, y⟩ := h
  exact .tup (sqT x) (dpAll (fun _ _ z => z.dp) y)
theorem dpInts : ∀ l : List Int, DpAll K H (l.map V.int) (l.map PyData.int)
  | [] => .nil
  | _ :: l => .cons (.int _) (dpInts l)
end
/-- good for ==: texts are plain, at most n deep -/
structure OkD (n : Nat) (d : PyData) : Prop where
  lay : d.canLay0 = true
  dep : d.depth ≤ n
theorem OkD.shaped {n : Nat} {d : PyData} (h : OkD n d) (hn : n ≤ 64) : SeqAt.shaped d = true := by
  unfold SeqAt.shaped
  rw [h.lay, decide_eq_true (Nat.le_trans h.dep hn)]
  rfl
theorem OkD.eqv {n : Nat} {d : PyData} (h : OkD n d) : PyData.eqv d d = true := SeqAt.eqv_refl_plain d (PyData.plain_of_canLay0 d h.lay)
theorem OkD.all {n : Nat} : ∀ {ds : List PyData}, (∀ d ∈ ds, OkD n d) → PyData.canLayAll0 ds = true ∧ PyData.depthAll ds ≤ n
  | [], _ => ⟨rfl, Nat.zero_le _⟩
  | d :: ds, h => by
    have h1 := h d (List.mem_cons_self ..)
    have h2 := OkD.all (ds := ds) fun x hx => h x (List.mem_cons_of_mem _ hx)
    refine ⟨?_, ?_⟩
    · rw [PyData.canLayAll0, h1.lay, h2.1]; rfl
    · rw [PyData.depthAll]; exact Nat.max_le.mpr ⟨h1.dep, h2.2⟩
theorem OkD.tup {n : Nat} {ds : List PyData} (h : ∀ d ∈ ds, OkD n d) : OkD (n + 1) (.tuple ds) := by
  obtain ⟨a, b⟩ := OkD.all h
  exact ⟨by rw [PyData.canLay0]; exact a, by rw [PyData.depth]; exact Nat.succ_le_succ b⟩
theorem OkD.lst {n : Nat} {ds : List PyData} (h : ∀ d ∈ ds, OkD n d) : OkD (n + 1) (.list ds) := by
  obtain ⟨a, b⟩ := OkD.all h
  exact ⟨by rw [PyData.canLay0]; exact a, by rw [PyData.depth]; exact Nat.succ_le_succ b⟩
theorem OkD.int (n : Nat) (i : Int) : OkD n (.int i) := ⟨rfl, Nat.zero_le _⟩
theorem OkD.mono {n m : Nat} {d : PyData} (h : OkD n d) (hm : n ≤ m) : OkD m d := ⟨h.lay, Nat.le_trans h.dep hm⟩
theorem OkD.str (n : Nat) {x : Str} (h : PyData.canLay0 (.str x) = true) : OkD n (.str x) := ⟨h, Nat.zero_le _⟩
theorem prD_ok (q : Pr) : OkD 1 (prD q) := OkD.tup fun d hd => by
  rcases List.mem_cons.mp hd with rfl | hd
  · exact .int _ _
  · rw [List.mem_singleton.mp hd]; exact .int _ _
theorem rowD_ok (r : List Pr) : OkD 2 (rowD r) := OkD.tup fun d hd => by
  obtain ⟨q, _, e⟩ := List.mem_map.mp hd
  rw [← e]; exact prD_ok q
theorem rcD_ok (q : Rc) : OkD 1 (rcD q) := by
  cases q with
  | pr e =>
    refine OkD.tup fun d hd => ?_
    simp only [List.mem_cons, List.not_mem_nil, or_false] at hd
    rcases hd with rfl | rfl
    · exact .str _ (by decide +kernel)
    · exact .int _ _
  | tk e p x =>
    refine OkD.tup fun d hd => ?_
    simp only [List.mem_cons, List.not_mem_nil, or_false] at hd
    rcases hd with rfl | rfl | rfl | rfl
    · exact .str _ (by decide +kernel)
    all_goals exact .int _ _
theorem ltD_ok (q : Lt) : OkD 3 (ltD q) := by
  cases q with
  | ask e n =>
    refine OkD.tup fun d hd => ?_
    simp only [List.mem_cons, List.not_mem_nil, or_false] at hd
    rcases hd with rfl | rfl | rfl
    · exact .str _ (by decide +kernel)
    all_goals exact .int _ _
  | write e n p x =>
    refine OkD.tup fun d hd => ?_
    simp only [List.mem_cons, List.not_mem_nil, or_false] at hd
    rcases hd with rfl | rfl | rfl | rfl | rfl
    · exact .str _ (by decide +kernel)
    all_goals exact .int _ _
  | refused e n k =>
    refine OkD.tup fun d hd => ?_
    simp only [List.mem_cons, List.not_mem_nil, or_false] at hd
    rcases hd with rfl | rfl | rfl | rfl
    · exact .str _ (by decide +kernel)
    all_goals exact .int _ _
  | told e n row =>
    refine OkD.tup fun d hd => ?_
    simp only [List.mem_cons, List.not_mem_nil, or_false] at hd
    rcases hd with rfl | rfl | rfl | rfl
    · exact .str _ (by decide +kernel)
    · exact .int _ _
    · exact .int _ _
    · exact rowD_ok row
  | taken e n p =>
    refine OkD.tup fun d hd => ?_
    simp only [List.mem_cons, List.not_mem_nil, or_false] at hd
    rcases hd with rfl | rfl | rfl | rfl
    · exact .str _ (by decide +kernel)
    all_goals exact .int _ _
theorem mapD_ok {α : Type} {n : Nat} {f : α → PyData} (h : ∀ x, OkD n (f x)) (l : List α) : ∀ d ∈ l.map f, OkD n d := fun d hd => by
  obtain ⟨q, _, e⟩ := List.mem_map.mp hd
  rw [← e]; exact h q
/-! ### the taken counts as a dict -/
theorem tkD_len : ∀ (i : Nat) (l : List Nat), (tkD i l).length = l.length
  | _, [] => rfl
  | i, _ :: l => congrArg (· + 1) (tkD_len (i + 1) l)
theorem tkD_vals : ∀ (i : Nat) (l : List Nat), (tkD i l).map (·.2) = (l.map fun (n : Nat) => (n : Int)).map V.int
  | _, [] => rfl
  | i, _ :: l => congrArg _ (tkD_vals (i + 1) l)
theorem tkD_get : ∀ (i : Nat) (l : List Nat) (n : Nat), valV (tkD i l) (.inl ((i + n : Nat) : Int)) = (l[n]?).map fun (k : Nat) => V.int (k : Int)
  | _, [], _ => rfl
  | i, a :: l, 0 => by
    show valV ((Sum.inl (i : Int), V.int (a : Int)) :: tkD (i + 1) l) _ = _
    rw [valV_pos (by rfl)]
    rfl
  | i, a :: l, n + 1 => by
    show valV ((Sum.inl (i : Int), V.int (a : Int)) :: tkD (i + 1) l) _ = _
    rw [valV_neg (fun z => by have z' := Sum.inl.inj z; omega)]
    have h := tkD_get (i + 1) l n
    rw [show i + (n + 1) = i + 1 + n by omega]
    rw [h]
    rfl
theorem tkD_key (l : List Nat) (n : Nat) : valV (tkD 0 l) (.inl (n : Int)) = (l[n]?).map fun (k : Nat) => V.int (k : Int) := by
  have h := tkD_get 0 l n
  rw [Nat.zero_add] at h
  exact h
theorem tkD_map : ∀ (i : Nat) (l : List Nat) (n v : Nat), n < l.length → (tkD i l).map (fun kv => if kv.1 = .inl ((i + n : Nat) : Int) then (kv.1, V.int (v : Int)) else kv) = tkD i (l.set n v)
  | _, [], _, _, h => by simp at h
  | i, a :: l, 0, v, _ => by
    show (if (Sum.inl (i : Int) : Key) = .inl ((i + 0 : Nat) : Int) then ((Sum.inl (i : Int) : Key), V.int (v : Int)) else _) :: (tkD (i + 1) l).map _ = (.inl (i : Int), .int (v : Int)) :: tkD (i + 1) l
    rw [if_pos (by rfl)]
    congr 1
    have : ∀ (j : Nat) (l : List Nat), i < j → (tkD j l).map (fun kv => if kv.1 = .inl ((i + 0 : Nat) : Int) then (kv.1, V.int (v : Int)) else kv) = tkD j l := by
      intro j l
      induction l generalizing j with
      | nil => intro _; rfl
      | cons b l ih =>
        intro hj
        show (if (Sum.inl (j : Int) : Key) = .inl ((i + 0 : Nat) : Int) then _ else ((Sum.inl (j : Int) : Key), V.int (b : Int))) :: _ = _
        rw [if_neg (fun z => by have z' := Sum.inl.inj z; omega), ih (j + 1) (by omega)]
        rfl
    exact this (i + 1) l (Nat.lt_succ_self _)
  | i, a :: l, n + 1, v, h => by
    show (if (Sum.inl (i : Int) : Key) = .inl ((i + (n + 1) : Nat) : Int) then _ else ((Sum.inl (i : Int) : Key), V.int (a : Int))) :: (tkD (i + 1) l).map _ = _
    rw [if_neg (fun z => by have z' := Sum.inl.inj z; omega)]
    have ih := tkD_map (i + 1) l n v (by simpa using h)
    rw [show i + (n + 1) = i + 1 + n by omega, ih]
    rfl
theorem tkD_put (l : List Nat) (n v : Nat) (h : n < l.length) : putK (tkD 0 l) (.inl (n : Int)) (.int (v : Int)) = tkD 0 (l.set n v) := by
  unfold putK
  have h1 : ((tkD 0 l).any fun kv => decide (kv.1 = .inl (n : Int))) = true := by
    rw [valV_any, tkD_key, List.getElem?_eq_getElem h]
    rfl
  rw [if_pos h1]
  have h2 := tkD_map 0 l n v h
  rw [Nat.zero_add] at h2
  exact h2
theorem tkD_snoc : ∀ (i : Nat) (l : List Nat) (x : Nat), tkD i (l ++ [x]) = tkD i l ++ [(.inl ((i + l.length : Nat) : Int), .int (x : Int))]
  | i, [], x => rfl
  | i, a :: l, x => by
    show (Sum.inl (i : Int), V.int (a : Int)) :: tkD (i + 1) (l ++ [x]) = _
    rw [tkD_snoc (i + 1) l x, List.length_cons, show i + 1 + l.length = i + (l.length + 1) by omega]
    rfl
theorem tkD_new (l : List Nat) (x : Nat) : putK (tkD 0 l) (.inl ((l.length : Nat) : Int)) (.int (x : Int)) = tkD 0 (l ++ [x]) := by
  unfold putK
  have h1 : ((tkD 0 l).any fun kv => decide (kv.1 = .inl ((l.length : Nat) : Int))) = false := by
    rw [valV_any, tkD_key, List.getElem?_eq_none (Nat.le_refl _)]
    rfl
  rw [h1, if_neg Bool.false_ne_true, tkD_snoc, Nat.zero_add]
/-! ### the rows as a dict -/
theorem RwV.mono {H H' : Hp} (t : TupS H H') {kv : Key × V} {q : Nat × List Pr} (h : RwV H kv q) : RwV H' kv q := ⟨h.1, h.2.mono t⟩
theorem rows_any {H : Hp} (n : Nat) : ∀ {kvs : List (Key × V)} {rows : List (Nat × List Pr)}, Paired (RwV H) kvs rows → (kvs.any fun kv => decide (kv.1 = .inl (n : Int))) = hasR rows n
  | _, _, .nil => rfl
  | _, _, .cons (a := a) (b := b) r t => by
    have ih := rows_any n t
    unfold hasR at ih ⊢
    rw [List.any_cons, List.any_cons, ih, r.1]
    congr 1
    by_cases h : b.1 = n
    · rw [h, decide_eq_true rfl, decide_eq_true rfl]
    · rw [decide_eq_false h, decide_eq_false (fun z => h (by have z' := Sum.inl.inj z; omega))]
theorem rows_put {H : Hp} {kvs : List (Key × V)} {rows : List (Nat × List Pr)} (h : Paired (RwV H) kvs rows) (n : Nat) {v : V} {r : List Pr} (hv : RowV H v r) : Paired (RwV H) (putK kvs (.inl (n : Int)) v) (putR rows n r) := by
  unfold putK putR
  rw [rows_any n h]
  by_cases c : hasR rows n = true
  · rw [if_pos c, if_pos c]
    clear c
    induction h with
    | nil => exact .nil
    | cons x t ih =>
      rename_i a b _ _
      refine .cons ?_ ih
      by_cases e : b.1 = n
      · show RwV H (if a.1 = _ then (a.1, v) else a) (if b.1 = n then (b.1, r) else b)
        rw [if_pos e, if_pos (by rw [x.1, e])]
        exact ⟨x.1, hv⟩
      · show RwV H (if a.1 = _ then (a.1, v) else a) (if b.1 = n then (b.1, r) else b)
        rw [if_neg e, if_neg (fun z => e (by rw [x.1] at z; have z' := Sum.inl.inj z; omega))]
        exact x
  · rw [if_neg c, if_neg c]
    exact Pd.app h (.cons ⟨rfl, hv⟩ .nil)
theorem rows_val {H : Hp} {kvs : List (Key × V)} {rows : List (Nat × List Pr)} (h : Paired (RwV H) kvs rows) {i : Int} (hi : i ∈ rows.map fun q => (q.1 : Int)) : ∃ v, valV kvs (.inl i) = some v ∧ RowV H v (rowOf rows i) := by
  induction h with
  | nil => simp at hi
  | cons x t ih =>
    rename_i a b _ l
    by_cases e : (b.1 : Int) = i
    · refine ⟨a.2, valV_pos (by rw [x.1, e]), ?_⟩
      have : rowOf (b :: l) i = b.2 := by unfold rowOf; rw [List.find?_cons, decide_eq_true e]; rfl
      rw [this]; exact x.2
    · have hi' : i ∈ l.map fun q => (q.1 : Int) := by
        rcases List.mem_map.mp hi with ⟨q, hq, eq⟩
        rcases List.mem_cons.mp hq with rfl | hq
        · exact absurd eq e
        · exact List.mem_map.mpr ⟨q, hq, eq⟩
      obtain ⟨v, h1, h2⟩ := ih hi'
      refine ⟨v, ?_, ?_⟩
      · rw [valV_neg (fun z => e (by rw [x.1] at z; exact Sum.inl.inj z))]; exact h1
      · have : rowOf (b :: l) i = rowOf l i := by unfold rowOf; rw [List.find?_cons, decide_eq_false e]
        rw [this]; exact h2
theorem rows_keys {H : Hp} {kvs : List (Key × V)} {rows : List (Nat × List Pr)} (h : Paired (RwV H) kvs rows) : (kvs.map fun kv => kV kv.1) = (rows.map fun q => (q.1 : Int)).map V.int := by
  induction h with
  | nil => rfl
  | cons x t ih =>
    rename_i a b _ l
    rw [List.map_cons, List.map_cons, List.map_cons, ih, x.1]
    rfl
end K49

/-! K49T: what the walks ask of the top; the small defs. -/
namespace K49
open PySem PySem.Spec PyProof.Rows L2
structure Blt (mg : Str → Option Value) : Prop where
  isi : mg "isinstance" = none
  int : mg "int" = none
  bool : mg "bool" = none
  len : mg "len" = none
  max : mg "max" = none
  range : mg "range" = none
  tuple : mg "tuple" = none
  list : mg "list" = none
  sorted : mg "sorted" = none
  abs : mg "abs" = none
/-- the classes Record, Keeper, Sequencer, Council as the top has made them -/
structure Txt (K : PySem.W.Frag) (mg : Str → Option Value) (Cr Ck Cs Cc : Addr) : Prop where
  b : Blt mg
  clR : Cls K Cr
  clK : Cls K Ck
  clS : Cls K Cs
  clC : Cls K Cc
  rEp : NoAttr K Cr "epoch"
  rRow : NoAttr K Cr "row"
  kNum : NoAttr K Ck "number"
  kRec : NoAttr K Ck "records"
  kLoo : NoAttr K Ck "loose"
  kWai : NoAttr K Ck "waiting"
  sEp : NoAttr K Cs "epoch"
  sMan : NoAttr K Cs "many"
  sSt : NoAttr K Cs "stand"
  sRs : NoAttr K Cs "rows"
  sRow : NoAttr K Cs "row"
  sTk : NoAttr K Cs "taken"
  cKe : NoAttr K Cc "keepers"
  cSe : NoAttr K Cc "sequencers"
  cLe : NoAttr K Cc "letters"
  mR : mg "Record" = some (.ref Cr)
  mK : mg "Keeper" = some (.ref Ck)
  mS : mg "Sequencer" = some (.ref Cs)
  mC : mg "Council" = some (.ref Cc)
  ask : ∃ t, mg "ASKING" = some (.str "asking" t)
  lead : ∃ t, mg "LEADING" = some (.str "leading" t)
  stop : ∃ t, mg "STOPPED" = some (.str "stopped" t)
  most : ∃ t, mg "MOST_EPOCH" = some (.int 999999999999 t)
theorem hu1 {A : Around} {k : Nat} (hr : Room k A) : A.units + 1 < cLine := hu_of hr
/-! ### is_whole -/
abbrev sWhole : Stmt := top 4
def spWhole : Sp := fun vs H Q _ => ∃ x lo hi, vs = [x, .int lo, .int hi] ∧ ((∃ i, x = .int i ∧ Q (.bl (decide (lo ≤ i ∧ i ≤ hi))) H) ∨ (∃ z, x = .str z ∧ Q (.bl false) H))
theorem scWhole : FnScope ["thing", "low", "high"] ["thing", "low", "high"] (defScope sWhole) := ⟨rfl, rfl, rfl, by decide +kernel, rfl, by decide +kernel, by decide +kernel⟩
section
variable {P : Program} {w : World} {K : PySem.W.Frag} {mg : Str → Option Value} {base : Heap}
theorem ok_whole {f : Addr} {fd : FuncData} (F : Fun K "is_whole" "is_whole" sWhole f fd) (B : Blt mg) : FnOk P w K mg base CX0 1 f fd ["thing", "low", "high"] spWhole := by
  refine F.ok scWhole (fun vs H Q E h => ?_) (fun cdv A outer s H vs Q E hr h => ?_)
  · obtain ⟨x, lo, hi, rfl, _⟩ := h
    rfl
  · obtain ⟨x, lo, hi, rfl, h⟩ := h
    refine ⟨_, pss_one (ps_ret (pe_and (pe_callB call_isi (by rfl) B.isi (by decide +kernel) (pa_cons (pv 0) (pa_cons (pe_bltn (v := .ty "int") (by rfl) B.int (by decide +kernel) rfl) pa_nil)))
      (pe_and (pe_not (pe_callB call_isi (by rfl) B.isi (by decide +kernel) (pa_cons (pv 0) (pa_cons (pe_bltn (v := .ty "bool") (by rfl) B.bool (by decide +kernel) rfl) pa_nil))))
        (pe_one (pe_chain op_le op_le (pv 1) (pv 0) (pv 2)))))), ?_⟩
    rcases h with ⟨i, rfl, h⟩ | ⟨z, rfl, h⟩
    · refine ⟨_, rfl, ⟨_, _, _, _, true, rfl, .ty _, .base (.int i), kit_ty (by decide +kernel), _, rfl, iteT ?_⟩⟩
      refine ⟨_, rfl, ⟨_, _, _, _, false, rfl, .ty _, .base (.int i), kit_ty (by decide +kernel), _, rfl, _, rfl, iteT ?_⟩⟩
      refine ⟨_, rfl, _, rfl, lo, i, rfl, rfl, _, rfl, ?_⟩
      by_cases c : lo ≤ i
      · rw [decide_eq_true c]
        refine iteT ⟨_, rfl, i, hi, rfl, rfl, ?_⟩
        have e : decide (lo ≤ i ∧ i ≤ hi) = decide (i ≤ hi) := by simp [c]
        rw [e] at h
        exact h
      · rw [decide_eq_false c]
        have e : decide (lo ≤ i ∧ i ≤ hi) = false := decide_eq_false fun z => c z.1
        rw [e] at h
        exact iteF h
    · exact ⟨_, rfl, ⟨_, _, _, _, false, rfl, .ty _, .base (.str z), kit_ty (by decide +kernel), _, rfl, iteF h⟩⟩
/-! ### most_of -/
abbrev sMost : Stmt := top 8
def spMost : Sp := fun vs H Q _ => ∃ m : Nat, vs = [.int m] ∧ Q (.int ((m / 2 + 1 : Nat) : Int)) H
theorem scMost : FnScope ["many"] ["many"] (defScope sMost) := ⟨rfl, rfl, rfl, by decide +kernel, rfl, by decide +kernel, by decide +kernel⟩
theorem ok_most {f : Addr} {fd : FuncData} (F : Fun K "most_of" "most_of" sMost f fd) : FnOk P w K mg base CX0 1 f fd ["many"] spMost := by
  refine F.ok scMost (fun vs H Q E h => ?_) (fun cdv A outer s H vs Q E hr h => ?_)
  · obtain ⟨m, rfl, _⟩ := h
    rfl
  · obtain ⟨m, rfl, h⟩ := h
    refine ⟨_, pss_one (ps_ret (pe_op op_add (pe_op op_fdiv (pv 0) pe_int) pe_int)), ?_⟩
    refine ⟨_, rfl, _, _, rfl, rfl, ⟨by decide, by decide⟩, _, _, rfl, rfl, ?_⟩
    have e : ((m : Int) / 2 + 1) = ((m / 2 + 1 : Nat) : Int) := by omega
    rw [← e] at h
    exact h
end
end K49

/-! K49W1: records and keepers, def by def. -/
namespace K49
open PySem PySem.Spec PyProof.Rows L2
abbrev sRecInit : Stmt := inClass (top 6) 0
abbrev sRecPut : Stmt := inClass (top 6) 1
abbrev sRecFits : Stmt := inClass (top 6) 2
abbrev sKpInit : Stmt := inClass (top 7) 0
abbrev sKpKept : Stmt := inClass (top 7) 1
abbrev sKpHandle : Stmt := inClass (top 7) 2
abbrev sKpTake : Stmt := inClass (top 7) 3
abbrev sKpFlush : Stmt := inClass (top 7) 4
abbrev sKpFall : Stmt := inClass (top 7) 5
def Rc.word : Rc → Str
  | .pr _ => "promise" | .tk _ _ _ => "take"
def Rc.ep : Rc → Int
  | .pr e => e | .tk e _ _ => e
theorem RcV.two {H : Hp} {v : V} {q : Rc} (h : RcV H v q) : ∃ a r, v = .ref a ∧ H a = some (.tup (.str q.word :: .int q.ep :: r)) := by
  cases q with
  | pr e => obtain ⟨a, e, x⟩ := h; exact ⟨a, _, e, x⟩
  | tk e p y => obtain ⟨a, e, x⟩ := h; exact ⟨a, _, e, x⟩
theorem take_more {α : Type} : ∀ {l : List α} {i : Nat} {x : α}, l[i]? = some x → l.take (i + 1) = l.take i ++ [x]
  | [], i, x, h => by simp at h
  | a :: l, 0, x, h => by
    have e : a = x := Option.some.inj h
    subst e
    rfl
  | a :: l, i + 1, x, h => by
    have ih := take_more (l := l) (i := i) (x := x) (by simpa using h)
    rw [List.take_succ_cons, List.take_succ_cons, ih, List.cons_append]
theorem recOf_more {l : List Rc} {i : Nat} {x : Rc} (h : l[i]? = some x) : recOf (l.take (i + 1)) = (recOf (l.take i)).put x := by
  rw [take_more h, recOf_snoc]
theorem RS.put_row (r : RS) (e : Int) (p : Nat) (x : Int) : (r.put (.tk e p x)).row = if p < r.row.length then r.row.set p (e, x) else r.row ++ [(e, x)] := rfl
/-! ### the promises -/
section
variable (Cr Ck : Addr)
def spRecPut : Sp := fun vs H Q _ => ∃ (p l : Addr) (rv : V) (x : RS) (rc : Rc), vs = [.ref p, rv] ∧ RsAt Cr H p l x ∧ RcV H rv rc ∧ x.row.length ≤ 5000 ∧
  ∀ H' : Hp, RsAt Cr H' p l (x.put rc) → Kpt (fun b => b = p ∨ b = l) H H' → Q .non H'
def spRecInit : Sp := fun vs H Q _ => ∃ (p dx : Addr) (rv : V) (rs : List Rc), vs = [.ref p, rv] ∧ H p = some (.ins Cr dx []) ∧ RcsV H rv rs ∧ rs.length ≤ 5000 ∧
  ∀ (l : Addr) (H' : Hp), RsAt Cr H' p l (recOf rs) → H l = none → Kpt (fun b => b = p) H H' → Q .non H'
def spRecFits : Sp := fun vs H Q _ => ∃ (p l : Addr) (x : RS) (e : Int) (n : Nat), vs = [.ref p, .int e, .int n] ∧ RsAt Cr H p l x ∧ Q (.bl (fits x.row e n)) H
def spKpInit : Sp := fun vs H Q _ => ∃ (p dx : Addr) (n : Nat), vs = [.ref p, .int n] ∧ H p = some (.ins Ck dx []) ∧
  ∀ H' : Hp, KpAt Ck H' p (.new n) → Kpt (fun b => b = p) H H' → Q .non H'
def spKpKept : Sp := fun vs H Q _ => ∃ (p : Addr) (k : Kp), vs = [.ref p] ∧ KpAt Ck H p k ∧ k.recs.length + k.loose.length ≤ 5000 ∧
  ∀ (r l : Addr) (H' : Hp), RsAt Cr H' r l k.known → H r = none → H l = none → Kpt No H H' → Q (.ref r) H'
def spKpHandle : Sp := fun vs H Q _ => ∃ (p : Addr) (k : Kp) (lv : V) (l : Lt), vs = [.ref p, lv] ∧ KpAt Ck H p k ∧ LtV H lv l ∧ l.down = true ∧ k.recs.length + k.loose.length ≤ 5000 ∧ k.wait.length ≤ 5000 ∧
  ∀ H' : Hp, KpAt Ck H' p (k.handle l) → Kpt (fun b => b = p) H H' → Q .non H'
def spKpTake : Sp := fun vs H Q _ => ∃ (p r rl : Addr) (k : Kp) (x : RS) (e : Int) (n : Nat) (y : Int), vs = [.ref p, .ref r, .int e, .int n, .int y] ∧ KpAt Ck H p k ∧ RsAt Cr H r rl x ∧ r ≠ p ∧ rl ≠ p ∧ x.row.length ≤ 5000 ∧ k.recs.length + k.loose.length ≤ 5000 ∧ k.wait.length ≤ 5000 ∧
  ∀ H' : Hp, KpAt Ck H' p (if fits x.row e n = true then (if n = x.row.length ∨ x.row[n]? ≠ some (e, y) then k.note (.tk e n y) else k).say (.taken e k.num n) else k) → Kpt (fun b => b = p) H H' → Q .non H'
def spKpFlush : Sp := fun vs H Q _ => ∃ (p : Addr) (k : Kp), vs = [.ref p] ∧ KpAt Ck H p k ∧ k.recs.length + k.loose.length ≤ 5000 ∧
  ∀ (w : V) (H' : Hp), LtsV H' w k.wait → KpAt Ck H' p k.flush → Kpt (fun b => b = p) H H' → Q w H'
def spKpFall : Sp := fun vs H Q _ => ∃ (p : Addr) (k : Kp) (n : Nat), vs = [.ref p, .int n] ∧ KpAt Ck H p k ∧ k.recs.length + k.loose.length ≤ 5000 ∧ n ≤ k.loose.length ∧
  ∀ H' : Hp, KpAt Ck H' p (k.fall n) → Kpt (fun b => b = p) H H' → Q .non H'
end
/-! ### what a keeper says and notes -/
section
variable {C p dx t1 t2 : Addr} {H : Hp} {k : Kp} {rv lv : V} {w : Addr} {ws : List V}
/-- one more answer that waits: its tuple at t1, the new tuple of answers at t2 -/
theorem say_at {l : Lt} {xs : List V} (hp : H p = some (.ins C dx (kf k.num rv lv (.ref w)))) (hr : RcsV H rv k.recs) (hl : RcsV H lv k.loose) (hw : H w = some (.tup ws)) (hq : Paired (LtV H) ws k.wait)
    (n1 : H t1 = none) (hx : LtV (upd H t1 (.tup xs)) (.ref t1) l) (n2 : upd H t1 (.tup xs) t2 = none) :
    KpAt C (upd (upd (upd H t1 (.tup xs)) t2 (.tup (ws ++ [.ref t1]))) p (.ins C dx (putF "waiting" (.ref t2) (kf k.num rv lv (.ref w))))) p (k.say l) ∧
      Kpt (fun b => b = p) H (upd (upd (upd H t1 (.tup xs)) t2 (.tup (ws ++ [.ref t1]))) p (.ins C dx (putF "waiting" (.ref t2) (kf k.num rv lv (.ref w))))) := by
  have k1 : Kpt (fun b => b = p) H (upd H t1 (.tup xs)) := Kpt.new n1
  have k2 : Kpt (fun b => b = p) (upd H t1 (.tup xs)) (upd (upd H t1 (.tup xs)) t2 (.tup (ws ++ [.ref t1]))) := Kpt.new n2
  have q1 : p ≠ t1 := ne_of_none hp n1
  have hp2 : upd (upd H t1 (.tup xs)) t2 (.tup (ws ++ [.ref t1])) p = some (.ins C dx (kf k.num rv lv (.ref w))) := by
    have e : upd H t1 (.tup xs) p = some (.ins C dx (kf k.num rv lv (.ref w))) := by rw [upd_ne q1]; exact hp
    rw [upd_ne (ne_of_none e n2)]; exact e
  have k3 : Kpt (fun b => b = p) (upd (upd H t1 (.tup xs)) t2 (.tup (ws ++ [.ref t1]))) (upd (upd (upd H t1 (.tup xs)) t2 (.tup (ws ++ [.ref t1]))) p (.ins C dx (putF "waiting" (.ref t2) (kf k.num rv lv (.ref w))))) := Kpt.wr rfl hp2 ins_tup
  have kk := (k1.trans k2).trans k3
  refine ⟨⟨dx, rv, lv, .ref t2, upd_ins kf_pw, hr.mono kk.tup, hl.mono kk.tup, t2, _, rfl, k3.tup _ _ upd_same, Pd.app (Pd.mono (fun _ _ z => z.mono kk.tup) hq) (.cons (hx.mono (k2.trans k3).tup) .nil)⟩, kk⟩
/-- one more record, loosely -/
theorem note_at {r : Rc} {xs : List V} {wv : V} {vs : List V} {l : Addr} (hp : H p = some (.ins C dx (kf k.num rv (.ref l) wv))) (hr : RcsV H rv k.recs) (hl : H l = some (.tup vs)) (hq : Paired (RcV H) vs k.loose) (hw : LtsV H wv k.wait)
    (n1 : H t1 = none) (hx : RcV (upd H t1 (.tup xs)) (.ref t1) r) (n2 : upd H t1 (.tup xs) t2 = none) :
    let H' := upd (upd (upd H t1 (.tup xs)) t2 (.tup (vs ++ [.ref t1]))) p (.ins C dx (putF "loose" (.ref t2) (kf k.num rv (.ref l) wv)))
    H' p = some (.ins C dx (kf k.num rv (.ref t2) wv)) ∧ RcsV H' rv k.recs ∧ RcsV H' (.ref t2) (k.note r).loose ∧ LtsV H' wv k.wait ∧ Kpt (fun b => b = p) H H' := by
  intro H'
  have k1 : Kpt (fun b => b = p) H (upd H t1 (.tup xs)) := Kpt.new n1
  have k2 : Kpt (fun b => b = p) (upd H t1 (.tup xs)) (upd (upd H t1 (.tup xs)) t2 (.tup (vs ++ [.ref t1]))) := Kpt.new n2
  have q1 : p ≠ t1 := ne_of_none hp n1
  have hp2 : upd (upd H t1 (.tup xs)) t2 (.tup (vs ++ [.ref t1])) p = some (.ins C dx (kf k.num rv (.ref l) wv)) := by
    have e : upd H t1 (.tup xs) p = some (.ins C dx (kf k.num rv (.ref l) wv)) := by rw [upd_ne q1]; exact hp
    rw [upd_ne (ne_of_none e n2)]; exact e
  have k3 : Kpt (fun b => b = p) (upd (upd H t1 (.tup xs)) t2 (.tup (vs ++ [.ref t1]))) H' := Kpt.wr rfl hp2 ins_tup
  have kk := (k1.trans k2).trans k3
  exact ⟨upd_ins kf_pl, hr.mono kk.tup, ⟨t2, _, rfl, k3.tup _ _ upd_same, Pd.app (Pd.mono (fun _ _ z => z.mono kk.tup) hq) (.cons (hx.mono (k2.trans k3).tup) .nil)⟩, hw.mono kk.tup, kk⟩
end
section
variable {P : Program} {w : World} {K : PySem.W.Frag} {mg : Str → Option Value} {base : Heap} {Cr Ck Cs Cc : Addr}
/-! ### Record.put -/
theorem scRecPut : FnScope ["self", "record", "pair"] ["self", "record"] (defScope sRecPut) := ⟨rfl, rfl, rfl, by decide +kernel, rfl, by decide +kernel, by decide +kernel⟩
theorem ok_recPut {f : Addr} {fd : FuncData} (F : Fun K "put" "Record.put" sRecPut f fd) (T : Txt K mg Cr Ck Cs Cc) : FnOk P w K mg base CX0 1 f fd ["self", "record"] (spRecPut Cr) := by
  refine F.ok scRecPut (fun vs H Q E h => ?_) (fun cdv A outer s H vs Q E hr h => ?_)
  · obtain ⟨p, l, rv, x, rc, rfl, _⟩ := h
    rfl
  · obtain ⟨p, l, rv, x, rc, rfl, ⟨dx, vs, hp, hl, hq⟩, hrc, hz, k⟩ := h
    refine ⟨_, pss_cons (ps_fld (pv 0) (pe_callB (call_max2 rfl) (by rfl) T.b.max (by decide +kernel) (pa_cons (pe_fld (pv 0) rfl) (pa_cons (pe_ix ix_tup (pv 1) pe_int (fun _ _ => rfl)) pa_nil))) rfl)
      (pss_one (ps_if (pt_cmpR op_eq (pe_ix ix_tup (pv 1) pe_int (fun _ _ => rfl)) pe_str (nomark _))
        (pss_cons (ps_set (i := 2) scRecPut.nd rfl (Or.inl rfl) (pe_tup (pa_cons (pe_ix ix_tup (pv 1) pe_int (fun _ _ => rfl)) (pa_cons (pe_ix ix_tup (pv 1) pe_int (fun _ _ => rfl)) pa_nil))))
          (pss_one (ps_if (pt_cmpR op_lt (pe_ix ix_tup (pv 1) pe_int (fun _ _ => rfl)) (pe_callB call_len_seq (by rfl) T.b.len PySem.boot_len (pa_cons (pe_fld (pv 0) rfl) pa_nil)) (nomark _))
            (pss_one (ps_asg (pv 2) (pg_sub (pe_fld (pv 0) rfl) (pe_ix ix_tup (pv 1) pe_int (fun _ _ => rfl)) set_list)))
            (pss_one (ps_expr (pe_bm PySem.F.plainAttrs_list PySem.F.slot_list_append PySem.F.type_list_append mt_append (pe_fld (pv 0) rfl) (pa_cons (pv 2) pa_nil)))))))
        pss_nil)), ?_⟩
    obtain ⟨t, r, rfl, ht⟩ := hrc.two
    refine ⟨_, rfl, p, Cr, dx, _, _, rfl, hp, T.clR, T.rEp, rf_ep, _, rfl, t, _, _, _, rfl, rfl, sqT ht, at1, x.ep, rc.ep, rfl, _, rfl, p, Cr, dx, _, rfl, hp, T.clR, T.rEp, (by show 2 < 1000; decide), ?_⟩
    have k1 : Kpt (fun b => b = p ∨ b = l) H (upd H p (.ins Cr dx (putF "epoch" (.int (if rc.ep > x.ep then rc.ep else x.ep)) (rf x.ep l)))) := Kpt.wr (.inl rfl) hp ins_tup
    have hp1 : upd H p (.ins Cr dx (putF "epoch" (.int (if rc.ep > x.ep then rc.ep else x.ep)) (rf x.ep l))) p = some (.ins Cr dx (rf (if rc.ep > x.ep then rc.ep else x.ep) l)) := upd_ins rf_pe
    have lp : l ≠ p := ne_of hl hp (by intro z; cases z)
    have hl1 : upd H p (.ins Cr dx (putF "epoch" (.int (if rc.ep > x.ep then rc.ep else x.ep)) (rf x.ep l))) l = some (.lst vs) := by rw [upd_ne lp]; exact hl
    have hq1 := Pd.mono (fun _ _ z => PrV.mono k1.tup z) hq
    have ht1 := k1.tup _ _ ht
    have hrc1 := hrc.mono k1.tup
    generalize upd H p (.ins Cr dx (putF "epoch" (.int (if rc.ep > x.ep then rc.ep else x.ep)) (rf x.ep l))) = H1 at *
    refine ⟨_, rfl, t, _, _, _, rfl, rfl, sqT ht1, at0, rfl, _, rfl, ?_⟩
    cases rc with
    | pr e =>
      rw [show decide (V.str (Rc.word (.pr e)) = V.str "take") = false from (by decide +kernel : decide (V.str "promise" = V.str "take") = false)]
      refine iteF (k H1 ⟨dx, vs, hp1, hl1, hq1⟩ k1)
    | tk e n y =>
      obtain ⟨t', e', ht2⟩ := hrc1
      cases e'
      rw [show decide (V.str (Rc.word (.tk e n y)) = V.str "take") = true from (by decide +kernel : decide (V.str "take" = V.str "take") = true)]
      refine iteT ⟨_, rfl, t, _, _, _, rfl, rfl, sqT ht2, at1, _, rfl, t, _, _, _, rfl, rfl, sqT ht2, at3, (by show 2 ≤ sizeLine; decide), fun q nq => ?_⟩
      have k2 : Kpt (fun b => b = p ∨ b = l) H1 (upd H1 q (.tup [.int e, .int y])) := Kpt.new nq
      have hp2 := k2.same_of nq hp1
      have hl2 := k2.same_of nq hl1
      have ht3 := k2.tup _ _ ht2
      have hq2 := Pd.mono (fun _ _ z => PrV.mono k2.tup z) hq1
      have hpr : PrV (upd H1 q (.tup [.int e, .int y])) (.ref q) (e, y) := ⟨q, rfl, upd_same⟩
      have k12 := k1.trans k2
      generalize upd H1 q (.tup [.int e, .int y]) = H2 at *
      have el : vs.length = x.row.length := hq.length
      refine ⟨_, rfl, t, _, _, _, rfl, rfl, sqT ht3, at2, _, rfl, p, Cr, dx, _, _, rfl, hp2, T.clR, T.rRow, rf_row, l, _, rfl, .inl (sqL hl2), _, _, rfl, rfl, _, rfl, ?_⟩
      by_cases c : n < x.row.length
      · rw [decide_eq_true (show (n : Int) < (vs.length : Int) by omega)]
        refine iteT ⟨_, rfl, _, rfl, p, Cr, dx, _, _, rfl, hp2, T.clR, T.rRow, rf_row, _, rfl, t, _, _, _, rfl, rfl, sqT ht3, at2, l, vs, n, n, rfl, rfl, hl2, (by unfold ixN; rw [if_pos (by omega), if_pos (by omega)]; simp), ?_⟩
        have k3 : Kpt (fun b => b = p ∨ b = l) H2 (upd H2 l (.lst (vs.set n (.ref q)))) := Kpt.wr (.inr rfl) hl2 lst_tup
        refine k _ ⟨dx, vs.set n (.ref q), by rw [upd_ne lp.symm]; exact hp2, upd_same, ?_⟩ (k12.trans k3)
        rw [RS.put_row, if_pos c]
        exact Pd.set (hpr.mono k3.tup) n (Pd.mono (fun _ _ z => PrV.mono k3.tup z) hq2)
      · rw [decide_eq_false (show ¬ (n : Int) < (vs.length : Int) by omega)]
        refine iteF ⟨_, rfl, p, Cr, dx, _, _, rfl, hp2, T.clR, T.rRow, rf_row, .inl ⟨rfl, _, sqL hl2⟩, _, rfl, l, vs, _, rfl, rfl, hl2, smallT (by omega), ?_⟩
        have k3 : Kpt (fun b => b = p ∨ b = l) H2 (upd H2 l (.lst (vs ++ [.ref q]))) := Kpt.wr (.inr rfl) hl2 lst_tup
        refine k _ ⟨dx, vs ++ [.ref q], by rw [upd_ne lp.symm]; exact hp2, upd_same, ?_⟩ (k12.trans k3)
        rw [RS.put_row, if_neg c]
        exact Pd.app (Pd.mono (fun _ _ z => PrV.mono k3.tup z) hq2) (.cons (hpr.mono k3.tup) .nil)
/-! ### Record.__init__ -/
theorem scRecInit : FnScope ["self", "records", "record"] ["self", "records"] (defScope sRecInit) := ⟨rfl, rfl, rfl, by decide +kernel, rfl, by decide +kernel, by decide +kernel⟩
theorem ok_recInit {f fP : Addr} {fd fdP : FuncData} (F : Fun K "__init__" "Record.__init__" sRecInit f fd) (T : Txt K mg Cr Ck Cs Cc) (GP : FnOk P w K mg base CX0 1 fP fdP ["self", "record"] (spRecPut Cr)) (bP : Binds K fdP ["self", "record"] []) (mP : Meth K Cr "put" fP) :
    FnOk P w K mg base CX0 2 f fd ["self", "records"] (spRecInit Cr) := by
  refine F.ok scRecInit (fun vs H Q E h => ?_) (fun cdv A outer s H vs Q E hr h => ?_)
  · obtain ⟨p, dx, rv, rs, rfl, _⟩ := h
    rfl
  · obtain ⟨p, dx, rv, rs, rfl, hp, ⟨t, vs, rfl, ht, hq⟩, hz, k⟩ := h
    refine ⟨_, pss_cons (ps_fld (pv 0) (pe_un un_neg pe_int) rfl) (pss_cons (ps_fld (pv 0) (pe_lst pa_nil) rfl)
      (pss_one (ps_for PassesOwn.never rfl (pi_tup (pv 1)) (pg_name (i := 2) scRecInit.nd rfl (Or.inl rfl)) (pss_one (ps_expr (pe_meth (pv 0) T.clR mP GP hr bP .nil pass0 (pa_cons (pv 2) pa_nil))))))), ?_⟩
    refine ⟨_, rfl, _, rfl, p, Cr, dx, [], rfl, hp, T.clR, T.rEp, (by show 0 < 1000; decide), ?_⟩
    have k1 : Kpt (fun b => b = p) H (upd H p (.ins Cr dx (putF "epoch" (.int (-1)) []))) := Kpt.wr rfl hp ins_tup
    have hp1 : upd H p (.ins Cr dx (putF "epoch" (.int (-1)) [])) p = some (.ins Cr dx [("epoch", .int (-1))]) := upd_ins rfl
    generalize upd H p (.ins Cr dx (putF "epoch" (.int (-1)) [])) = H1 at *
    refine ⟨(by show 0 ≤ sizeLine; exact Nat.zero_le _), fun l nl => ?_⟩
    have pl : p ≠ l := ne_of_none hp1 nl
    refine ⟨_, rfl, p, Cr, dx, _, rfl, (by rw [upd_ne pl]; exact hp1), T.clR, T.rRow, (by show 1 < 1000; decide), ?_⟩
    have k2 : Kpt (fun b => b = p) H1 (upd H1 l (.lst [])) := Kpt.new nl
    have k3 : Kpt (fun b => b = p) (upd H1 l (.lst [])) (upd (upd H1 l (.lst [])) p (.ins Cr dx (putF "row" (.ref l) [("epoch", .int (-1))]))) := Kpt.wr rfl (by rw [upd_ne pl]; exact hp1) ins_tup
    have hp3 : upd (upd H1 l (.lst [])) p (.ins Cr dx (putF "row" (.ref l) [("epoch", .int (-1))])) p = some (.ins Cr dx (rf (-1) l)) := upd_ins rfl
    have hl3 : upd (upd H1 l (.lst [])) p (.ins Cr dx (putF "row" (.ref l) [("epoch", .int (-1))])) l = some (.lst []) := by rw [upd_ne pl.symm]; exact upd_same
    have kk := (k1.trans k2).trans k3
    have hlH : H l = none := by
      rcases k1.free nl with z | z
      · exact absurd z.symm pl
      · exact z
    generalize upd (upd H1 l (.lst [])) p (.ins Cr dx (putF "row" (.ref l) [("epoch", .int (-1))])) = H3 at *
    refine ⟨_, rfl, t, rfl, ⟨_, sqT (kk.tup _ _ ht)⟩, for_tup (K := K) (a := t) (xs := vs) (fun i σ H' => ∃ v : Option V, σ = [some (.ref p), some (.ref t), v] ∧ RsAt Cr H' p l (recOf (rs.take i)) ∧ Kpt (fun b => b = p) H H')
      ⟨none, rfl, ⟨dx, [], hp3, hl3, .nil⟩, kk⟩ (fun i σ H' _ ⟨_, _, _, s⟩ => sqT (s.tup _ _ ht)) ?_ ?_⟩
    · rintro i y σ H' hi ⟨v, rfl, hR, s⟩
      obtain ⟨rc, hrc, hv⟩ := Pd.getL hq hi
      obtain ⟨dx', vs', e1, e2, e3⟩ := id hR
      have hlen : (recOf (rs.take i)).row.length ≤ 5000 := Nat.le_trans (recOf_len _) (by rw [List.length_take]; omega)
      refine ⟨_, rfl, p, dx', _, rfl, e1, by rfl, _, rfl, p, l, y, _, rc, rfl, hR, hv.mono s.tup, hlen, fun H4 hR4 k4 => ?_⟩
      refine ⟨some y, rfl, ?_, s.then k4 fun c z => ?_⟩
      · rw [recOf_more hrc]; exact hR4
      · rcases z with z | z
        · exact .inl z
        · exact .inr (by rw [z]; exact hlH)
    · rintro σ H' ⟨v, rfl, hR, s⟩
      rw [hq.length, List.take_length] at hR
      exact k l H' hR hlH s
/-! ### Record.fits -/
theorem scRecFits : FnScope ["self", "epoch", "place"] ["self", "epoch", "place"] (defScope sRecFits) := ⟨rfl, rfl, rfl, by decide +kernel, rfl, by decide +kernel, by decide +kernel⟩
theorem ok_recFits {f : Addr} {fd : FuncData} (F : Fun K "fits" "Record.fits" sRecFits f fd) (T : Txt K mg Cr Ck Cs Cc) : FnOk P w K mg base CX0 1 f fd ["self", "epoch", "place"] (spRecFits Cr) := by
  refine F.ok scRecFits (fun vs H Q E h => ?_) (fun cdv A outer s H vs Q E hr h => ?_)
  · obtain ⟨p, l, x, e, n, rfl, _⟩ := h
    rfl
  · obtain ⟨p, l, x, e, n, rfl, ⟨dx, vs, hp, hl, hq⟩, k⟩ := h
    refine ⟨_, pss_cons (ps_if (pt_cmpR op_gt (pv 2) (pe_callB call_len_seq (by rfl) T.b.len PySem.boot_len (pa_cons (pe_fld (pv 0) rfl) pa_nil)) (nomark _)) (pss_one (ps_ret pe_bl)) pss_nil)
      (pss_one (ps_ret (pe_or (pe_cmpR op_eq (pv 2) pe_int (nomark _))
        (pe_one (pe_cmpR op_eq (pe_ix ix_tup (pe_ix ix_list (pe_fld (pv 0) rfl) (pe_op op_sub (pv 2) pe_int) (fun _ _ => rfl)) pe_int (fun _ _ => rfl)) (pv 1) (nomark _)))))), ?_⟩
    have el : vs.length = x.row.length := hq.length
    refine ⟨_, rfl, _, rfl, p, Cr, dx, _, _, rfl, hp, T.clR, T.rRow, rf_row, l, _, rfl, .inl (sqL hl), _, _, rfl, rfl, _, rfl, ?_⟩
    by_cases c : x.row.length < n
    · rw [decide_eq_true (show (vs.length : Int) < (n : Int) by omega)]
      refine iteT ?_
      have e : fits x.row e n = false := by unfold fits; rw [if_pos c]
      rw [e] at k
      exact k
    · rw [decide_eq_false (show ¬ (vs.length : Int) < (n : Int) by omega)]
      refine iteF ⟨_, rfl, rfl, _, rfl, ?_⟩
      by_cases c2 : n = 0
      · subst c2
        rw [show decide (V.int ((0 : Nat) : Int) = V.int 0) = true from rfl]
        refine iteT ?_
        have e : fits x.row e 0 = true := by unfold fits; rw [if_neg c]; rfl
        rw [e] at k
        exact k
      · rw [decide_eq_false (show ¬ V.int (n : Int) = V.int 0 from fun z => c2 (by have z' := V.int.inj z; omega))]
        obtain ⟨q, hqq⟩ : ∃ q, x.row[n - 1]? = some q := ⟨x.row[n - 1]'(by omega), List.getElem?_eq_getElem (by omega)⟩
        obtain ⟨v, hv, a, rfl, ha⟩ := Pd.get hq hqq
        refine iteF ⟨_, rfl, p, Cr, dx, _, _, rfl, hp, T.clR, T.rRow, rf_row, _, rfl, _, _, rfl, rfl, l, vs, _, _, rfl, rfl, sqL hl, at_of (j := n - 1) (by omega) hv, a, _, _, _, rfl, rfl, sqT ha, at0, _, rfl, rfl, ?_⟩
        have e2 : fits x.row e n = decide (V.int q.1 = V.int e) := by
          unfold fits
          rw [if_neg c, hqq, decide_eq_false c2, Bool.false_or]
          show decide (q.1 = e) = decide (V.int q.1 = V.int e)
          by_cases c3 : q.1 = e
          · rw [c3, decide_eq_true rfl, decide_eq_true rfl]
          · rw [decide_eq_false c3, decide_eq_false fun z => c3 (V.int.inj z)]
        rw [e2] at k
        exact k
/-! ### Keeper.__init__, kept, flush, fall -/
theorem scKpInit : FnScope ["self", "number"] ["self", "number"] (defScope sKpInit) := ⟨rfl, rfl, rfl, by decide +kernel, rfl, by decide +kernel, by decide +kernel⟩
theorem ok_kpInit {f : Addr} {fd : FuncData} (F : Fun K "__init__" "Keeper.__init__" sKpInit f fd) (T : Txt K mg Cr Ck Cs Cc) : FnOk P w K mg base CX0 1 f fd ["self", "number"] (spKpInit Ck) := by
  refine F.ok scKpInit (fun vs H Q E h => ?_) (fun cdv A outer s H vs Q E hr h => ?_)
  · obtain ⟨p, dx, n, rfl, _⟩ := h
    rfl
  · obtain ⟨p, dx, n, rfl, hp, k⟩ := h
    refine ⟨_, pss_cons (ps_fld (pv 0) (pv 1) rfl) (pss_cons (ps_fld (pv 0) (pe_tup pa_nil) rfl) (pss_cons (ps_fld (pv 0) (pe_tup pa_nil) rfl) (pss_one (ps_fld (pv 0) (pe_tup pa_nil) rfl)))), ?_⟩
    refine ⟨_, rfl, _, rfl, p, Ck, dx, [], rfl, hp, T.clK, T.kNum, (by show 0 < 1000; decide), ?_⟩
    have k1 : Kpt (fun b => b = p) H (upd H p (.ins Ck dx (putF "number" (.int n) []))) := Kpt.wr rfl hp ins_tup
    have hp1 : upd H p (.ins Ck dx (putF "number" (.int n) [])) p = some (.ins Ck dx [("number", .int n)]) := upd_ins rfl
    generalize upd H p (.ins Ck dx (putF "number" (.int n) [])) = H1 at *
    refine ⟨(by show 0 ≤ sizeLine; exact Nat.zero_le _), fun t1 n1 => ?_⟩
    have a2 : upd H1 t1 (.tup []) p = some (.ins Ck dx [("number", .int n)]) := by rw [upd_ne (ne_of_none hp1 n1)]; exact hp1
    refine ⟨_, rfl, p, Ck, dx, _, rfl, a2, T.clK, T.kRec, (by show 1 < 1000; decide), ?_⟩
    have k2 : Kpt (fun b => b = p) H1 (upd H1 t1 (.tup [])) := Kpt.new n1
    have k3 : Kpt (fun b => b = p) (upd H1 t1 (.tup [])) (upd (upd H1 t1 (.tup [])) p (.ins Ck dx (putF "records" (.ref t1) [("number", .int n)]))) := Kpt.wr rfl a2 ins_tup
    have hp3 : upd (upd H1 t1 (.tup [])) p (.ins Ck dx (putF "records" (.ref t1) [("number", .int n)])) p = some (.ins Ck dx [("number", .int n), ("records", .ref t1)]) := upd_ins rfl
    have ht1 := k3.tup t1 [] upd_same
    have k13 := (k1.trans k2).trans k3
    generalize upd (upd H1 t1 (.tup [])) p (.ins Ck dx (putF "records" (.ref t1) [("number", .int n)])) = H3 at *
    refine ⟨(by show 0 ≤ sizeLine; exact Nat.zero_le _), fun t2 n2 => ?_⟩
    have a3 : upd H3 t2 (.tup []) p = some (.ins Ck dx [("number", .int n), ("records", .ref t1)]) := by rw [upd_ne (ne_of_none hp3 n2)]; exact hp3
    refine ⟨_, rfl, p, Ck, dx, _, rfl, a3, T.clK, T.kLoo, (by show 2 < 1000; decide), ?_⟩
    have k4 : Kpt (fun b => b = p) H3 (upd H3 t2 (.tup [])) := Kpt.new n2
    have k5 : Kpt (fun b => b = p) (upd H3 t2 (.tup [])) (upd (upd H3 t2 (.tup [])) p (.ins Ck dx (putF "loose" (.ref t2) [("number", .int n), ("records", .ref t1)]))) := Kpt.wr rfl a3 ins_tup
    have hp5 : upd (upd H3 t2 (.tup [])) p (.ins Ck dx (putF "loose" (.ref t2) [("number", .int n), ("records", .ref t1)])) p = some (.ins Ck dx [("number", .int n), ("records", .ref t1), ("loose", .ref t2)]) := upd_ins rfl
    have ht2 := k5.tup t2 [] upd_same
    have k15 := (k13.trans k4).trans k5
    have ht1b := (k4.trans k5).tup _ _ ht1
    generalize upd (upd H3 t2 (.tup [])) p (.ins Ck dx (putF "loose" (.ref t2) [("number", .int n), ("records", .ref t1)])) = H5 at *
    refine ⟨(by show 0 ≤ sizeLine; exact Nat.zero_le _), fun t3 n3 => ?_⟩
    have a5 : upd H5 t3 (.tup []) p = some (.ins Ck dx [("number", .int n), ("records", .ref t1), ("loose", .ref t2)]) := by rw [upd_ne (ne_of_none hp5 n3)]; exact hp5
    refine ⟨_, rfl, p, Ck, dx, _, rfl, a5, T.clK, T.kWai, (by show 3 < 1000; decide), ?_⟩
    have k6 : Kpt (fun b => b = p) H5 (upd H5 t3 (.tup [])) := Kpt.new n3
    have k7 : Kpt (fun b => b = p) (upd H5 t3 (.tup [])) (upd (upd H5 t3 (.tup [])) p (.ins Ck dx (putF "waiting" (.ref t3) [("number", .int n), ("records", .ref t1), ("loose", .ref t2)]))) := Kpt.wr rfl a5 ins_tup
    have k67 := k6.trans k7
    exact k _ ⟨dx, .ref t1, .ref t2, .ref t3, upd_ins rfl, ⟨t1, [], rfl, k67.tup _ _ ht1b, .nil⟩, ⟨t2, [], rfl, k67.tup _ _ ht2, .nil⟩, ⟨t3, [], rfl, k7.tup _ _ upd_same, .nil⟩⟩ (k15.trans k67)
theorem scKpKept : FnScope ["self"] ["self"] (defScope sKpKept) := ⟨rfl, rfl, rfl, by decide +kernel, rfl, by decide +kernel, by decide +kernel⟩
/-- a + b of tuples of records -/
theorem cat_rcs {H : Hp} {a b : V} {x y : List Rc} {Q : VK} (ha : RcsV H a x) (hb : RcsV H b y) (hz : x.length + y.length ≤ 5000) (k : ∀ (v : V) (H' : Hp), RcsV H' v (x ++ y) → Kpt No H H' → Q v H') : rCatA K a b H Q := by
  obtain ⟨t, vs, rfl, ht, hq⟩ := ha
  obtain ⟨u, ws, rfl, hu, hr⟩ := hb
  refine ⟨t, u, vs, ws, rfl, rfl, sqT ht, sqT hu, small (by rw [hq.length, hr.length]; omega), fun e => ?_, fun e e2 => ?_, fun _ _ q nq => ?_⟩
  · subst e
    cases hq
    exact k _ _ ⟨u, ws, rfl, hu, hr⟩ .refl
  · subst e2
    cases hr
    exact k _ _ ⟨t, vs, rfl, ht, by rw [List.append_nil]; exact hq⟩ .refl
  · have k1 : Kpt No H (upd H q (.tup (vs ++ ws))) := Kpt.new nq
    exact k _ _ ⟨q, _, rfl, upd_same, Pd.app (Pd.mono (fun _ _ z => z.mono k1.tup) hq) (Pd.mono (fun _ _ z => z.mono k1.tup) hr)⟩ k1
theorem ok_kpKept {f fI : Addr} {fd fdI : FuncData} (F : Fun K "kept" "Keeper.kept" sKpKept f fd) (T : Txt K mg Cr Ck Cs Cc) (GI : FnOk P w K mg base CX0 2 fI fdI ["self", "records"] (spRecInit Cr)) (bI : Binds K fdI ["self", "records"] []) (MI : Mk K Cr fI) :
    FnOk P w K mg base CX0 4 f fd ["self"] (spKpKept Cr Ck) := by
  refine F.ok scKpKept (fun vs H Q E h => ?_) (fun cdv A outer s H vs Q E hr h => ?_)
  · obtain ⟨p, k, rfl, _⟩ := h
    rfl
  · obtain ⟨p, k, rfl, ⟨dx, rv, lv, wv, hp, hre, hlo, hwa⟩, hz, kk⟩ := h
    refine ⟨_, pss_one (ps_ret (pe_make MI GI hr rfl T.mR bI .nil pass0 (pa_cons (pe_op op_catA (pe_fld (pv 0) rfl) (pe_fld (pv 0) rfl)) pa_nil))), ?_⟩
    refine ⟨_, rfl, p, Ck, dx, _, _, rfl, hp, T.clK, T.kRec, kf_rec, _, rfl, p, Ck, dx, _, _, rfl, hp, T.clK, T.kLoo, kf_loo, cat_rcs hre hlo hz fun v H1 hv k1 => ?_⟩
    intro x dx' nx ndx nex
    have s2 : Kpt No H1 (upd (upd H1 dx' (.own x)) x (.ins Cr dx' [])) := by
      have s1 : Kpt No H1 (upd H1 dx' (.own x)) := Kpt.new ndx
      exact s1.trans (Kpt.new (by rw [upd_ne nex.symm]; exact nx))
    refine ⟨x, dx', v, _, rfl, upd_same, hv.mono s2.tup, by rw [List.length_append]; omega, fun l H2 hR nl k2 => ⟨rfl, ?_⟩⟩
    have hx : H x = none := (k1.same).free nx
    have hl1 : H1 l = none := (s2.same).free nl
    refine kk x l H2 hR hx ((k1.same).free hl1) ((k1.trans s2).then (k2.mono (N := fun b => b = x) fun _ z => z) fun c z => .inr (by rw [z]; exact hx))
theorem scKpFlush : FnScope ["self", "found"] ["self"] (defScope sKpFlush) := ⟨rfl, rfl, rfl, by decide +kernel, rfl, by decide +kernel, by decide +kernel⟩
end
end K49

/-! K49W2: keepers: flush, fall, take, handle. -/
namespace K49
open PySem PySem.Spec PyProof.Rows L2
section
variable {P : Program} {w : World} {K : PySem.W.Frag} {mg : Str → Option Value} {base : Heap} {Cr Ck Cs Cc : Addr}
theorem eqv_pr (q : Pr) (e x : Int) : PyData.eqv (prD q) (prD (e, x)) = decide (q = (e, x)) := by
  obtain ⟨a, b⟩ := q
  simp only [prD, PyData.eqv, PyData.eqvAll, Bool.and_true]
  by_cases h : a = e <;> by_cases h2 : b = x <;> simp [h, h2]
/-- the two empty tuples behind flush and fall -/
theorem ok_kpFlush {f : Addr} {fd : FuncData} (F : Fun K "flush" "Keeper.flush" sKpFlush f fd) (T : Txt K mg Cr Ck Cs Cc) : FnOk P w K mg base CX0 1 f fd ["self"] (spKpFlush Ck) := by
  refine F.ok scKpFlush (fun vs H Q E h => ?_) (fun cdv A outer s H vs Q E hr h => ?_)
  · obtain ⟨p, k, rfl, _⟩ := h
    rfl
  · obtain ⟨p, k, rfl, ⟨dx, rv, lv, wv, hp, hre, hlo, hwa⟩, hz, kk⟩ := h
    refine ⟨_, pss_cons (ps_fld (pv 0) (pe_op op_catA (pe_fld (pv 0) rfl) (pe_fld (pv 0) rfl)) rfl) (pss_cons (ps_set (i := 1) scKpFlush.nd rfl (Or.inl rfl) (pe_fld (pv 0) rfl))
      (pss_cons (ps_fld (pv 0) (pe_tup pa_nil) rfl) (pss_cons (ps_fld (pv 0) (pe_tup pa_nil) rfl) (pss_one (ps_ret (pv 1)))))), ?_⟩
    refine ⟨_, rfl, p, Ck, dx, _, _, rfl, hp, T.clK, T.kRec, kf_rec, _, rfl, p, Ck, dx, _, _, rfl, hp, T.clK, T.kLoo, kf_loo, cat_rcs hre hlo hz fun v H1 hv k1 => ?_⟩
    have hp1 := k1.same _ _ hp
    refine ⟨_, rfl, p, Ck, dx, _, rfl, hp1, T.clK, T.kRec, (by show 4 < 1000; decide), ?_⟩
    have k2 : Kpt (fun b => b = p) H1 (upd H1 p (.ins Ck dx (putF "records" v (kf k.num rv lv wv)))) := Kpt.wr rfl hp1 ins_tup
    have hp2 : upd H1 p (.ins Ck dx (putF "records" v (kf k.num rv lv wv))) p = some (.ins Ck dx (kf k.num v lv wv)) := upd_ins kf_pr
    have hv2 := hv.mono k2.tup
    have k12 := (k1.mono (N := fun b => b = p) fun _ z => z.elim).trans k2
    generalize upd H1 p (.ins Ck dx (putF "records" v (kf k.num rv lv wv))) = H2 at *
    refine ⟨_, rfl, p, Ck, dx, _, _, rfl, hp2, T.clK, T.kWai, kf_wai, ?_⟩
    refine ⟨(by show 0 ≤ sizeLine; exact Nat.zero_le _), fun t3 n3 => ?_⟩
    have a3 : upd H2 t3 (.tup []) p = some (.ins Ck dx (kf k.num v lv wv)) := by rw [upd_ne (ne_of_none hp2 n3)]; exact hp2
    refine ⟨_, rfl, p, Ck, dx, _, rfl, a3, T.clK, T.kLoo, (by show 4 < 1000; decide), ?_⟩
    have k3 : Kpt (fun b => b = p) H2 (upd H2 t3 (.tup [])) := Kpt.new n3
    have k4 : Kpt (fun b => b = p) (upd H2 t3 (.tup [])) (upd (upd H2 t3 (.tup [])) p (.ins Ck dx (putF "loose" (.ref t3) (kf k.num v lv wv)))) := Kpt.wr rfl a3 ins_tup
    have hp4 : upd (upd H2 t3 (.tup [])) p (.ins Ck dx (putF "loose" (.ref t3) (kf k.num v lv wv))) p = some (.ins Ck dx (kf k.num v (.ref t3) wv)) := upd_ins kf_pl
    have ht4 := k4.tup t3 [] upd_same
    have k14 := (k12.trans k3).trans k4
    have hv4 := hv2.mono (k3.trans k4).tup
    generalize upd (upd H2 t3 (.tup [])) p (.ins Ck dx (putF "loose" (.ref t3) (kf k.num v lv wv))) = H4 at *
    refine ⟨(by show 0 ≤ sizeLine; exact Nat.zero_le _), fun t5 n5 => ?_⟩
    have a5 : upd H4 t5 (.tup []) p = some (.ins Ck dx (kf k.num v (.ref t3) wv)) := by rw [upd_ne (ne_of_none hp4 n5)]; exact hp4
    refine ⟨_, rfl, p, Ck, dx, _, rfl, a5, T.clK, T.kWai, (by show 4 < 1000; decide), ?_⟩
    have k5 : Kpt (fun b => b = p) H4 (upd H4 t5 (.tup [])) := Kpt.new n5
    have k6 : Kpt (fun b => b = p) (upd H4 t5 (.tup [])) (upd (upd H4 t5 (.tup [])) p (.ins Ck dx (putF "waiting" (.ref t5) (kf k.num v (.ref t3) wv)))) := Kpt.wr rfl a5 ins_tup
    have k56 := k5.trans k6
    refine ⟨_, rfl, ?_⟩
    have kall := k14.trans k56
    exact kk _ _ (hwa.mono kall.tup) ⟨dx, v, .ref t3, .ref t5, upd_ins kf_pw, hv4.mono k56.tup, ⟨t3, [], rfl, k56.tup _ _ ht4, .nil⟩, ⟨t5, [], rfl, k6.tup _ _ upd_same, .nil⟩⟩ kall
theorem scKpFall : FnScope ["self", "many"] ["self", "many"] (defScope sKpFall) := ⟨rfl, rfl, rfl, by decide +kernel, rfl, by decide +kernel, by decide +kernel⟩
theorem sIx_pre (n i : Nat) : HT.sIx n n (some (i : Int)) = min i n ∧ HT.sIx n 0 none = 0 := by
  refine ⟨?_, rfl⟩
  simp only [HT.sIx]
  split <;> omega
theorem cut_pre (xs : List V) (i : Nat) : cutV xs none (some (i : Int)) = xs.take i := by
  unfold cutV
  rw [(sIx_pre xs.length i).1, (sIx_pre xs.length i).2, List.drop_zero, Nat.sub_zero]
  by_cases h : i ≤ xs.length
  · rw [Nat.min_eq_left h]
  · rw [Nat.min_eq_right (by omega), List.take_length, List.take_of_length_le (by omega)]
theorem ok_kpFall {f fW : Addr} {fd fdW : FuncData} (F : Fun K "fall" "Keeper.fall" sKpFall f fd) (T : Txt K mg Cr Ck Cs Cc) (GW : FnOk P w K mg base CX0 1 fW fdW ["thing", "low", "high"] spWhole) (bW : Binds K fdW ["thing", "low", "high"] []) (mW : mg "is_whole" = some (.ref fW)) (kW : PySem.W.keepIn K (.ref fW) = true) :
    FnOk P w K mg base CX0 2 f fd ["self", "many"] (spKpFall Ck) := by
  refine F.ok scKpFall (fun vs H Q E h => ?_) (fun cdv A outer s H vs Q E hr h => ?_)
  · obtain ⟨p, k, n, rfl, _⟩ := h
    rfl
  · obtain ⟨p, k, n, rfl, ⟨dx, rv, lv, wv, hp, hre, hlo, hwa⟩, hz, hn, kk⟩ := h
    refine ⟨_, pss_cons (ps_if (pt_not (pt_val (pe_call GW hr rfl mW kW bW .nil pass0 (pa_cons (pv 1) (pa_cons pe_int (pa_cons (pe_callB call_len_seq (by rfl) T.b.len PySem.boot_len (pa_cons (pe_fld (pv 0) rfl) pa_nil)) pa_nil)))))) pss_never pss_nil)
      (pss_cons (ps_fld (pv 0) (pe_op op_catA (pe_fld (pv 0) rfl) (pe_slice sl_tupA (pe_fld (pv 0) rfl) po_none (po_some (pv 1)))) rfl)
      (pss_cons (ps_fld (pv 0) (pe_tup pa_nil) rfl) (pss_one (ps_fld (pv 0) (pe_tup pa_nil) rfl)))), ?_⟩
    obtain ⟨tl, ls, rfl, hl, hlq⟩ := id hlo
    have el : ls.length = k.loose.length := hlq.length
    refine ⟨_, rfl, _, rfl, p, Ck, dx, _, _, rfl, hp, T.clK, T.kLoo, kf_loo, tl, _, rfl, .inr (sqT hl), _, _, _, rfl, .inl ⟨_, rfl, ?_⟩⟩
    refine ⟨_, rfl, ?_⟩
    rw [decide_eq_true (show (0 : Int) ≤ (n : Int) ∧ (n : Int) ≤ (ls.length : Int) by omega)]
    refine iteF ?_
    refine ⟨_, rfl, p, Ck, dx, _, _, rfl, hp, T.clK, T.kRec, kf_rec, _, rfl, p, Ck, dx, _, _, rfl, hp, T.clK, T.kLoo, kf_loo, _, rfl, _, rfl, tl, ls, rfl, sqT hl, ?_⟩
    have go : ∀ (v2 : V) (H1 : Hp), RcsV H1 v2 (k.loose.take n) → Kpt No H H1 → rCatA K rv v2 H1 (fun x H1 => tVar 0 (start ["self", "many"] [V.ref p, V.int n]) H1 fun x_1 H2 => ∃ a C dx fs, x_1 = V.ref a ∧ H2 a = some (HO.ins C dx fs) ∧ Cls K C ∧ NoAttr K C "records" ∧ fs.length < 1000 ∧ (tSeq (sFld K (tVar 0) (tTup tNil) "loose") (sFld K (tVar 0) (tTup tNil) "waiting")) { nx := fun _ H' => Q .non H', rt := Q } (start ["self", "many"] [V.ref p, V.int n]) (upd H2 a (.ins C dx (putF "records" x fs)))) := by
      intro v2 H1 hv2 k1
      refine cat_rcs (hre.mono k1.tup) hv2 (by rw [List.length_take]; omega) fun v H2 hv k2 => ?_
      have hp2 := k2.same _ _ (k1.same _ _ hp)
      refine ⟨_, rfl, p, Ck, dx, _, rfl, hp2, T.clK, T.kRec, (by show 4 < 1000; decide), ?_⟩
      have k3 : Kpt (fun b => b = p) H2 (upd H2 p (.ins Ck dx (putF "records" v (kf k.num rv (.ref tl) wv)))) := Kpt.wr rfl hp2 ins_tup
      have hp3 : upd H2 p (.ins Ck dx (putF "records" v (kf k.num rv (.ref tl) wv))) p = some (.ins Ck dx (kf k.num v (.ref tl) wv)) := upd_ins kf_pr
      have hv3 := hv.mono k3.tup
      have k13 := ((k1.trans k2).mono (N := fun b => b = p) fun _ z => z.elim).trans k3
      generalize upd H2 p (.ins Ck dx (putF "records" v (kf k.num rv (.ref tl) wv))) = H3 at *
      refine ⟨(by show 0 ≤ sizeLine; exact Nat.zero_le _), fun t3 n3 => ?_⟩
      have a3 : upd H3 t3 (.tup []) p = some (.ins Ck dx (kf k.num v (.ref tl) wv)) := by rw [upd_ne (ne_of_none hp3 n3)]; exact hp3
      refine ⟨_, rfl, p, Ck, dx, _, rfl, a3, T.clK, T.kLoo, (by show 4 < 1000; decide), ?_⟩
      have k4 : Kpt (fun b => b = p) H3 (upd H3 t3 (.tup [])) := Kpt.new n3
      have k5 : Kpt (fun b => b = p) (upd H3 t3 (.tup [])) (upd (upd H3 t3 (.tup [])) p (.ins Ck dx (putF "loose" (.ref t3) (kf k.num v (.ref tl) wv)))) := Kpt.wr rfl a3 ins_tup
      have hp5 : upd (upd H3 t3 (.tup [])) p (.ins Ck dx (putF "loose" (.ref t3) (kf k.num v (.ref tl) wv))) p = some (.ins Ck dx (kf k.num v (.ref t3) wv)) := upd_ins kf_pl
      have ht5 := k5.tup t3 [] upd_same
      have k15 := (k13.trans k4).trans k5
      have hv5 := hv3.mono (k4.trans k5).tup
      generalize upd (upd H3 t3 (.tup [])) p (.ins Ck dx (putF "loose" (.ref t3) (kf k.num v (.ref tl) wv))) = H5 at *
      refine ⟨(by show 0 ≤ sizeLine; exact Nat.zero_le _), fun t6 n6 => ?_⟩
      have a6 : upd H5 t6 (.tup []) p = some (.ins Ck dx (kf k.num v (.ref t3) wv)) := by rw [upd_ne (ne_of_none hp5 n6)]; exact hp5
      refine ⟨_, rfl, p, Ck, dx, _, rfl, a6, T.clK, T.kWai, (by show 4 < 1000; decide), ?_⟩
      have k6 : Kpt (fun b => b = p) H5 (upd H5 t6 (.tup [])) := Kpt.new n6
      have k7 : Kpt (fun b => b = p) (upd H5 t6 (.tup [])) (upd (upd H5 t6 (.tup [])) p (.ins Ck dx (putF "waiting" (.ref t6) (kf k.num v (.ref t3) wv)))) := Kpt.wr rfl a6 ins_tup
      have k67 := k6.trans k7
      exact kk _ ⟨dx, v, .ref t3, .ref t6, upd_ins kf_pw, hv5.mono k67.tup, ⟨t3, [], rfl, k67.tup _ _ ht5, .nil⟩, ⟨t6, [], rfl, k7.tup _ _ upd_same, .nil⟩⟩ (k15.trans k67)
    refine ⟨fun e => ?_, fun e q nq => ?_⟩
    · rw [(sIx_pre ls.length n).1, (sIx_pre ls.length n).2] at e
      have en : n = k.loose.length := by omega
      exact go _ H (by rw [en, List.take_length]; exact ⟨tl, ls, rfl, hl, hlq⟩) .refl
    · rw [cut_pre]
      have k1 : Kpt No H (upd H q (.tup (ls.take n))) := Kpt.new nq
      exact go _ _ ⟨q, _, rfl, upd_same, Pd.take n (Pd.mono (fun _ _ z => z.mono k1.tup) hlq)⟩ k1
/-! ### take -/
theorem scKpTake : FnScope ["self", "known", "epoch", "place", "entry"] ["self", "known", "epoch", "place", "entry"] (defScope sKpTake) := ⟨rfl, rfl, rfl, by decide +kernel, rfl, by decide +kernel, by decide +kernel⟩
theorem ok_kpTake {f fT : Addr} {fd fdT : FuncData} (F : Fun K "take" "Keeper.take" sKpTake f fd) (T : Txt K mg Cr Ck Cs Cc) (GT : FnOk P w K mg base CX0 1 fT fdT ["self", "epoch", "place"] (spRecFits Cr)) (bT : Binds K fdT ["self", "epoch", "place"] []) (mT : Meth K Cr "fits" fT) :
    FnOk P w K mg base CX0 2 f fd ["self", "known", "epoch", "place", "entry"] (spKpTake Cr Ck) := by
  refine F.ok scKpTake (fun vs H Q E h => ?_) (fun cdv A outer s H vs Q E hr h => ?_)
  · obtain ⟨p, r, rl, k, x, e, n, y, rfl, _⟩ := h
    rfl
  · obtain ⟨p, r, rl, k, x, e, n, y, rfl, ⟨dx, rv, lv, wv, hp, hre, hlo, hwa⟩, hR, nrp, nlp, hzr, hz, hzw, kk⟩ := h
    obtain ⟨dxr, rvs, hr1, hrl, hrq⟩ := id hR
    refine ⟨_, pss_cons (ps_if (pt_not (pt_val (pe_meth (pv 1) T.clR mT GT hr bT .nil pass0 (pa_cons (pv 2) (pa_cons (pv 3) pa_nil))))) (pss_one ps_retN) pss_nil)
      (pss_cons (ps_if (PW.pt (pw_or (pt_cmpR op_eq (pv 3) (pe_callB call_len_seq (by rfl) T.b.len PySem.boot_len (pa_cons (pe_fld (pv 1) rfl) pa_nil)) (nomark _))
          (pw_or1 (pt_cmpR (op_neD hr.units) (pe_ix ix_list (pe_fld (pv 1) rfl) (pv 3) (fun _ _ => rfl)) (pe_tup (pa_cons (pv 2) (pa_cons (pv 4) pa_nil))) (nomark _)))))
        (pss_one (ps_fld (pv 0) (pe_tup (StX.pa_star (pe_fld (pv 0) rfl) (pa_cons (pe_tup (pa_cons pe_str (pa_cons (pv 2) (pa_cons (pv 3) (pa_cons (pv 4) pa_nil))))) pa_nil))) rfl)) pss_nil)
      (pss_one (ps_fld (pv 0) (pe_tup (StX.pa_star (pe_fld (pv 0) rfl) (pa_cons (pe_tup (pa_cons pe_str (pa_cons (pv 2) (pa_cons (pe_fld (pv 0) rfl) (pa_cons (pv 3) pa_nil))))) pa_nil))) rfl))), ?_⟩
    refine ⟨_, rfl, r, dxr, _, rfl, hr1, by rfl, _, rfl, _, rfl, r, rl, x, e, n, rfl, hR, _, rfl, ?_⟩
    by_cases cf : fits x.row e n = true
    · rw [cf]
      rw [if_pos cf] at kk
      refine iteF ?_
      have hnl : n ≤ x.row.length := by
        unfold fits at cf
        split at cf
        · cases cf
        · omega
      have el : rvs.length = x.row.length := hrq.length
      -- the end: one more answer
      have fin : ∀ (H1 : Hp) (lv1 : V) (k1 : Kp), k1.num = k.num → k1.recs = k.recs → k1.wait = k.wait → H1 p = some (.ins Ck dx (kf k.num rv lv1 wv)) → RcsV H1 rv k1.recs → RcsV H1 lv1 k1.loose → LtsV H1 wv k.wait → Kpt (fun b => b = p) H H1 →
          (∀ H' : Hp, KpAt Ck H' p (k1.say (.taken e k.num n)) → Kpt (fun b => b = p) H H' → Q .non H') →
          sFld K (tVar 0) (tTup (StX.tStar K (tFld K (tVar 0) "waiting") (tCons (tTup (tCons (tC (.str "taken")) (tCons (tVar 2) (tCons (tFld K (tVar 0) "number") (tCons (tVar 3) tNil))))) tNil))) "waiting" { nx := fun _ H' => Q .non H', rt := Q }
            (start ["self", "known", "epoch", "place", "entry"] [.ref p, .ref r, .int e, .int n, .int y]) H1 := by
        intro H1 lv1 k1 q1 q2 q3 hp1 hr1 hl1 hw1 kp1 kf1
        obtain ⟨tw, ws, rfl, hw, hwq⟩ := hw1
        have ew : ws.length = k.wait.length := hwq.length
        refine ⟨_, rfl, p, Ck, dx, _, _, rfl, hp1, T.clK, T.kWai, kf_wai, tw, ws, rfl, .inl (sqT hw), _, rfl, _, rfl, p, Ck, dx, _, _, rfl, hp1, T.clK, T.kNum, kf_num, _, rfl, (by show 4 ≤ sizeLine; exact small (by decide)), fun t1 n1 => ?_⟩
        refine ⟨by rw [List.length_append]; exact small (by show ws.length + 1 ≤ 100000; omega), fun t2 n2 => ?_⟩
        have hp2 : upd (upd H1 t1 (.tup [.str "taken", .int e, .int k.num, .int n])) t2 (.tup (ws ++ [.ref t1])) p = some (.ins Ck dx (kf k.num rv lv1 (.ref tw))) := by
          have e1 : upd H1 t1 (.tup [.str "taken", .int e, .int k.num, .int n]) p = some (.ins Ck dx (kf k.num rv lv1 (.ref tw))) := by rw [upd_ne (ne_of_none hp1 n1)]; exact hp1
          rw [upd_ne (ne_of_none e1 n2)]; exact e1
        refine ⟨_, rfl, p, Ck, dx, _, rfl, hp2, T.clK, T.kWai, (by show 4 < 1000; decide), ?_⟩
        have sa := say_at (C := Ck) (k := k1) (l := .taken e k.num n) (xs := [.str "taken", .int e, .int k.num, .int n]) (by rw [q1]; exact hp1) hr1 hl1 hw (by rw [q3]; exact hwq) n1 ⟨t1, rfl, upd_same⟩ n2
        rw [q1] at sa
        exact kf1 _ sa.1 (kp1.trans sa.2)
      -- the test
      have first : ∀ H1 : Hp, Kpt No H H1 → (n = x.row.length ∨ x.row[n]? ≠ some (e, y)) → (tSeq (sFld K (tVar 0) (tTup (StX.tStar K (tFld K (tVar 0) "loose") (tCons (tTup (tCons (tC (.str "take")) (tCons (tVar 2) (tCons (tVar 3) (tCons (tVar 4) tNil))))) tNil))) "loose")
          (sFld K (tVar 0) (tTup (StX.tStar K (tFld K (tVar 0) "waiting") (tCons (tTup (tCons (tC (.str "taken")) (tCons (tVar 2) (tCons (tFld K (tVar 0) "number") (tCons (tVar 3) tNil))))) tNil))) "waiting")) { nx := fun _ H' => Q .non H', rt := Q }
            (start ["self", "known", "epoch", "place", "entry"] [.ref p, .ref r, .int e, .int n, .int y]) H1 := by
        intro H1 kp1 c
        rw [if_pos c] at kk
        have hp1 := kp1.same _ _ hp
        have hre1 := hre.mono kp1.tup
        obtain ⟨tl, ls, rfl, hl, hlq⟩ := hlo.mono kp1.tup
        have hwa1 := hwa.mono kp1.tup
        have el2 : ls.length = k.loose.length := hlq.length
        refine ⟨_, rfl, p, Ck, dx, _, _, rfl, hp1, T.clK, T.kLoo, kf_loo, tl, ls, rfl, .inl (sqT hl), _, rfl, _, rfl, _, rfl, (by show 4 ≤ sizeLine; exact small (by decide)), fun t1 n1 => ?_⟩
        refine ⟨by rw [List.length_append]; exact small (by show ls.length + 1 ≤ 100000; omega), fun t2 n2 => ?_⟩
        have hp2 : upd (upd H1 t1 (.tup [.str "take", .int e, .int n, .int y])) t2 (.tup (ls ++ [.ref t1])) p = some (.ins Ck dx (kf k.num rv (.ref tl) wv)) := by
          have e1 : upd H1 t1 (.tup [.str "take", .int e, .int n, .int y]) p = some (.ins Ck dx (kf k.num rv (.ref tl) wv)) := by rw [upd_ne (ne_of_none hp1 n1)]; exact hp1
          rw [upd_ne (ne_of_none e1 n2)]; exact e1
        refine ⟨_, rfl, p, Ck, dx, _, rfl, hp2, T.clK, T.kLoo, (by show 4 < 1000; decide), ?_⟩
        obtain ⟨z1, z2, z3, z4, z5⟩ := note_at (C := Ck) (k := k) (r := .tk e n y) (xs := [.str "take", .int e, .int n, .int y]) hp1 hre1 hl hlq hwa1 n1 ⟨t1, rfl, upd_same⟩ n2
        exact fin _ _ (k.note (.tk e n y)) rfl rfl rfl z1 z2 z3 z4 ((kp1.mono fun _ z => z.elim).trans z5) kk
      refine ⟨_, rfl, _, rfl, r, Cr, dxr, _, _, rfl, hr1, T.clR, T.rRow, rf_row, rl, _, rfl, .inl (sqL hrl), rfl, _, rfl, ?_⟩
      by_cases c : n = x.row.length
      · rw [decide_eq_true (show V.int (n : Int) = V.int (rvs.length : Int) by rw [c, el])]
        exact iteT (iteT (first H .refl (.inl c)))
      · rw [decide_eq_false (show ¬ V.int (n : Int) = V.int (rvs.length : Int) from fun z => c (by have z' := V.int.inj z; omega))]
        obtain ⟨q, hq⟩ : ∃ q, x.row[n]? = some q := ⟨x.row[n]'(by omega), List.getElem?_eq_getElem (by omega)⟩
        obtain ⟨v, hv, hvq⟩ := Pd.get hrq hq
        refine iteF ⟨_, rfl, r, Cr, dxr, _, _, rfl, hr1, T.clR, T.rRow, rf_row, _, rfl, rl, rvs, _, _, rfl, rfl, sqL hrl, at_of (j := n) rfl hv, _, rfl, _, rfl, (by show 2 ≤ sizeLine; exact small (by decide)), fun t nt => ?_⟩
        have k1 : Kpt No H (upd H t (.tup [.int e, .int y])) := Kpt.new nt
        refine ⟨prD q, prD (e, y), (hvq.mono k1.tup).dp, PrV.dp ⟨t, rfl, upd_same⟩, (prD_ok _).shaped (by decide), (prD_ok _).shaped (by decide), _, rfl, ?_⟩
        rw [eqv_pr]
        by_cases c2 : q = (e, y)
        · rw [decide_eq_true c2]
          refine iteF ?_
          have cn : ¬ (n = x.row.length ∨ x.row[n]? ≠ some (e, y)) := fun z => by
            rcases z with z | z
            · exact c z
            · exact z (by rw [hq, c2])
          rw [if_neg cn] at kk
          exact fin _ lv k rfl rfl rfl (k1.same _ _ hp) (hre.mono k1.tup) (hlo.mono k1.tup) (hwa.mono k1.tup) (k1.mono fun _ z => z.elim) kk
        · rw [decide_eq_false c2]
          exact iteT (first _ k1 (.inr fun z => c2 (Option.some.inj (hq.symm.trans z))))
    · rw [show fits x.row e n = false by simpa using cf]
      rw [if_neg cf] at kk
      exact iteT (kk H ⟨dx, rv, lv, wv, hp, hre, hlo, hwa⟩ .refl)
end
end K49

/-! K49W3: a keeper takes a letter. -/
namespace K49
open PySem PySem.Spec PyProof.Rows L2
section
variable {P : Program} {w : World} {K : PySem.W.Frag} {mg : Str → Option Value} {base : Heap} {Cr Ck Cs Cc : Addr}
theorem scKpHandle : FnScope ["self", "letter", "known", "epoch"] ["self", "letter"] (defScope sKpHandle) := ⟨rfl, rfl, rfl, by decide +kernel, rfl, by decide +kernel, by decide +kernel⟩
theorem handle_low {k : Kp} {l : Lt} (h : l.ep < k.known.ep) : k.handle l = k.say (.refused l.ep k.num k.known.ep) := by unfold Kp.handle; rw [if_pos h]
theorem handle_ask {k : Kp} {e : Int} {n : Nat} (h : ¬ e < k.known.ep) : k.handle (.ask e n) = (if e > k.known.ep then k.note (.pr e) else k).say (.told e k.num k.known.row) := by
  unfold Kp.handle
  rw [if_neg (show ¬ Lt.ep (.ask e n) < k.known.ep from h)]
theorem handle_write {k : Kp} {e : Int} {n p : Nat} {x : Int} (h : ¬ e < k.known.ep) : k.handle (.write e n p x) =
    if fits k.known.row e p = true then (if p = k.known.row.length ∨ k.known.row[p]? ≠ some (e, x) then k.note (.tk e p x) else k).say (.taken e k.num p) else k := by
  unfold Kp.handle
  rw [if_neg (show ¬ Lt.ep (.write e n p x) < k.known.ep from h)]
theorem ok_kpHandle {f fK fT : Addr} {fd fdK fdT : FuncData} (F : Fun K "handle" "Keeper.handle" sKpHandle f fd) (T : Txt K mg Cr Ck Cs Cc)
    (GK : FnOk P w K mg base CX0 4 fK fdK ["self"] (spKpKept Cr Ck)) (bK : Binds K fdK ["self"] []) (mK : Meth K Ck "kept" fK)
    (GT : FnOk P w K mg base CX0 2 fT fdT ["self", "known", "epoch", "place", "entry"] (spKpTake Cr Ck)) (bT : Binds K fdT ["self", "known", "epoch", "place", "entry"] []) (mT : Meth K Ck "take" fT) :
    FnOk P w K mg base CX0 5 f fd ["self", "letter"] (spKpHandle Ck) := by
  refine F.ok scKpHandle (fun vs H Q E h => ?_) (fun cdv A outer s H vs Q E hr h => ?_)
  · obtain ⟨p, k, lv, l, rfl, _⟩ := h
    rfl
  · obtain ⟨p, k, lv, l, rfl, hk, hl, hd, hz, hzw, kk⟩ := h
    have hr2 : Room 2 _ := hr.mono (by decide)
    refine ⟨_, pss_cons (ps_par (i := 2) (j := 3) rfl scKpHandle.nd rfl rfl (by decide) rfl rfl (pa_cons (pe_meth0 (pv 0) T.clK mK GK hr bK .nil pass0) (pa_cons (pe_ix ix_tup (pv 1) pe_int (fun _ _ => rfl)) pa_nil)) (by rfl))
      (pss_one (ps_if (pt_cmpR op_lt (pv 3) (pe_fld (pv 2) rfl) (nomark _))
        (pss_one (ps_fld (pv 0) (pe_tup (StX.pa_star (pe_fld (pv 0) rfl) (pa_cons (pe_tup (pa_cons pe_str (pa_cons (pv 3) (pa_cons (pe_fld (pv 0) rfl) (pa_cons (pe_fld (pv 2) rfl) pa_nil))))) pa_nil))) rfl))
        (pss_one (ps_if (pt_cmpR op_eq (pe_ix ix_tup (pv 1) pe_int (fun _ _ => rfl)) pe_str (nomark _))
          (pss_cons (ps_if (pt_cmpR op_gt (pv 3) (pe_fld (pv 2) rfl) (nomark _))
              (pss_one (ps_fld (pv 0) (pe_tup (StX.pa_star (pe_fld (pv 0) rfl) (pa_cons (pe_tup (pa_cons pe_str (pa_cons (pv 3) pa_nil))) pa_nil))) rfl)) pss_nil)
            (pss_one (ps_fld (pv 0) (pe_tup (StX.pa_star (pe_fld (pv 0) rfl) (pa_cons (pe_tup (pa_cons pe_str (pa_cons (pv 3) (pa_cons (pe_fld (pv 0) rfl)
              (pa_cons (pe_callTy call_tuple_of (by rfl) T.b.tuple (by decide +kernel) (pa_cons (pe_fld (pv 2) rfl) pa_nil)) pa_nil))))) pa_nil))) rfl)))
          (pss_one (ps_expr (pe_meth (pv 0) T.clK mT GT hr2 bT .nil pass0 (pa_cons (pv 2) (pa_cons (pv 3) (pa_cons (pe_ix ix_tup (pv 1) pe_int (fun _ _ => rfl)) (pa_cons (pe_ix ix_tup (pv 1) pe_int (fun _ _ => rfl)) pa_nil)))))))))))
      , ?_⟩
    obtain ⟨dx, rv, lo, wv, hp, hre, hlo, hwa⟩ := id hk
    refine ⟨_, rfl, p, dx, _, rfl, hp, by rfl, p, k, rfl, hk, hz, fun r rl H1 hR nr nl k1 => ?_⟩
    have npr : r ≠ p := (ne_of_none hp nr).symm
    have npl : rl ≠ p := (ne_of_none hp nl).symm
    have hk1 := hk.mono k1 fun z => z
    have hl1 := hl.mono k1.tup
    obtain ⟨t, tr, rfl, ht⟩ := hl1.three
    refine ⟨_, rfl, t, _, _, _, rfl, rfl, sqT ht, at1, _, _, rfl, ?_⟩
    have hp1 := k1.same _ _ hp
    have hre1 := hre.mono k1.tup
    have hlo1 := hlo.mono k1.tup
    have hwa1 := hwa.mono k1.tup
    have kfin : ∀ H', KpAt Ck H' p (k.handle l) → Kpt (fun b => b = p) H1 H' → Q .non H' := fun H' a b => kk H' a ((k1.mono fun _ z => z.elim).trans b)
    clear kk hk hl hre hlo hwa hp k1 nr nl
    obtain ⟨dxr, rvs, hr1, hrl, hrq⟩ := id hR
    refine ⟨_, rfl, _, rfl, r, Cr, dxr, _, _, rfl, hr1, T.clR, T.rEp, rf_ep, _, _, rfl, rfl, _, rfl, ?_⟩
    by_cases c : l.ep < k.known.ep
    · rw [decide_eq_true c]
      obtain ⟨tw, ws, rfl, hw, hwq⟩ := hwa1
      have ew : ws.length = k.wait.length := hwq.length
      refine iteT ⟨_, rfl, p, Ck, dx, _, _, rfl, hp1, T.clK, T.kWai, kf_wai, tw, ws, rfl, .inl (sqT hw), _, rfl, _, rfl, p, Ck, dx, _, _, rfl, hp1, T.clK, T.kNum, kf_num, _, rfl, r, Cr, dxr, _, _, rfl, hr1, T.clR, T.rEp, rf_ep, (by show 4 ≤ sizeLine; exact small (by decide)), fun t1 n1 => ?_⟩
      refine ⟨by rw [List.length_append]; exact small (by show ws.length + 1 ≤ 100000; omega), fun t2 n2 => ?_⟩
      have hp2 : upd (upd H1 t1 (.tup [.str "refused", .int l.ep, .int k.num, .int k.known.ep])) t2 (.tup (ws ++ [.ref t1])) p = some (.ins Ck dx (kf k.num rv lo (.ref tw))) := by
        have e1 : upd H1 t1 (.tup [.str "refused", .int l.ep, .int k.num, .int k.known.ep]) p = some (.ins Ck dx (kf k.num rv lo (.ref tw))) := by rw [upd_ne (ne_of_none hp1 n1)]; exact hp1
        rw [upd_ne (ne_of_none e1 n2)]; exact e1
      refine ⟨_, rfl, p, Ck, dx, _, rfl, hp2, T.clK, T.kWai, (by show 4 < 1000; decide), ?_⟩
      have sa := say_at (C := Ck) (k := k) (l := .refused l.ep k.num k.known.ep) (xs := [.str "refused", .int l.ep, .int k.num, .int k.known.ep]) hp1 hre1 hlo1 hw hwq n1 ⟨t1, rfl, upd_same⟩ n2
      rw [← handle_low c] at sa
      exact kfin _ sa.1 sa.2
    · rw [decide_eq_false c]
      refine iteF ⟨_, rfl, t, _, _, _, rfl, rfl, sqT ht, at0, rfl, _, rfl, ?_⟩
      cases l with
      | ask e n =>
        rw [show decide (V.str (Lt.word (.ask e n)) = V.str "ask") = true from (by decide +kernel : decide (V.str "ask" = V.str "ask") = true)]
        rw [handle_ask (e := e) (n := n) c] at kfin
        refine iteT ⟨_, rfl, _, rfl, r, Cr, dxr, _, _, rfl, hr1, T.clR, T.rEp, rf_ep, _, _, rfl, rfl, _, rfl, ?_⟩
        -- the end: one more answer
        have fin : ∀ (H2 : Hp) (lv1 : V) (k2 : Kp), k2.num = k.num → k2.recs = k.recs → k2.wait = k.wait → H2 p = some (.ins Ck dx (kf k.num rv lv1 wv)) → RcsV H2 rv k2.recs → RcsV H2 lv1 k2.loose → LtsV H2 wv k.wait → Kpt (fun b => b = p) H1 H2 →
            (∀ H' : Hp, KpAt Ck H' p (k2.say (.told e k.num k.known.row)) → Kpt (fun b => b = p) H1 H' → Q .non H') →
            sFld K (tVar 0) (tTup (StX.tStar K (tFld K (tVar 0) "waiting") (tCons (tTup (tCons (tC (.str "told")) (tCons (tVar 3) (tCons (tFld K (tVar 0) "number") (tCons (tCB (fun xs H Q => ∃ p ys, xs = [.ref p] ∧ ((SqL K H p ys ∧ ∀ l, H l = none → Q (.ref l) (upd H l (.tup ys))) ∨ (SqT K H p ys ∧ Q (.ref p) H))) (tCons (tFld K (tVar 2) "row") tNil)) tNil))))) tNil))) "waiting" { nx := fun _ H' => Q .non H', rt := Q }
              [some (.ref p), some (.ref t), some (.ref r), some (.int e)] H2 := by
          intro H2 lv1 k2 q1 q2 q3 hp2 hre2 hlo2 hwa2 kp2 kf2
          obtain ⟨tw, ws, rfl, hw, hwq⟩ := hwa2
          have ew : ws.length = k.wait.length := hwq.length
          have hr2 : H2 r = some (.ins Cr dxr (rf k.known.ep rl)) := kp2.keep _ _ hr1 npr
          have hrl2 : H2 rl = some (.lst rvs) := kp2.keep _ _ hrl npl
          have hrq2 := Pd.mono (fun _ _ z => PrV.mono kp2.tup z) hrq
          refine ⟨_, rfl, p, Ck, dx, _, _, rfl, hp2, T.clK, T.kWai, kf_wai, tw, ws, rfl, .inl (sqT hw), _, rfl, _, rfl, p, Ck, dx, _, _, rfl, hp2, T.clK, T.kNum, kf_num, _, rfl, r, Cr, dxr, _, _, rfl, hr2, T.clR, T.rRow, rf_row, rl, rvs, rfl, .inl ⟨sqL hrl2, fun t0 n0 => ?_⟩⟩
          have k3 : Kpt No H2 (upd H2 t0 (.tup rvs)) := Kpt.new n0
          have hp3 := k3.same _ _ hp2
          have hw3 := k3.tup _ _ hw
          have hrow : RowV (upd H2 t0 (.tup rvs)) (.ref t0) k.known.row := ⟨t0, rvs, rfl, upd_same, Pd.mono (fun _ _ z => PrV.mono k3.tup z) hrq2⟩
          have hwq3 := Pd.mono (fun _ _ z => LtV.mono k3.tup z) hwq
          have hre3 := hre2.mono k3.tup
          have hlo3 := hlo2.mono k3.tup
          have k13 := kp2.trans (k3.mono (N := fun b => b = p) fun _ z => z.elim)
          generalize upd H2 t0 (.tup rvs) = H3 at *
          refine ⟨(by show 4 ≤ sizeLine; exact small (by decide)), fun t1 n1 => ?_⟩
          refine ⟨by rw [List.length_append]; exact small (by show ws.length + 1 ≤ 100000; omega), fun t2 n2 => ?_⟩
          have hp4 : upd (upd H3 t1 (.tup [.str "told", .int e, .int k.num, .ref t0])) t2 (.tup (ws ++ [.ref t1])) p = some (.ins Ck dx (kf k.num rv lv1 (.ref tw))) := by
            have e1 : upd H3 t1 (.tup [.str "told", .int e, .int k.num, .ref t0]) p = some (.ins Ck dx (kf k.num rv lv1 (.ref tw))) := by rw [upd_ne (ne_of_none hp3 n1)]; exact hp3
            rw [upd_ne (ne_of_none e1 n2)]; exact e1
          refine ⟨_, rfl, p, Ck, dx, _, rfl, hp4, T.clK, T.kWai, (by show 4 < 1000; decide), ?_⟩
          have k4 : Kpt No H3 (upd H3 t1 (.tup [.str "told", .int e, .int k.num, .ref t0])) := Kpt.new n1
          have sa := say_at (C := Ck) (k := k2) (l := .told e k.num k.known.row) (xs := [.str "told", .int e, .int k.num, .ref t0]) (by rw [q1]; exact hp3) hre3 hlo3 hw3 (by rw [q3]; exact hwq3) n1 ⟨t1, _, rfl, upd_same, hrow.mono k4.tup⟩ n2
          rw [q1] at sa
          exact kf2 _ sa.1 (k13.trans sa.2)
        by_cases c2 : e > k.known.ep
        · rw [show decide (k.known.ep < Lt.ep (.ask e n)) = true from decide_eq_true c2]
          rw [if_pos c2] at kfin
          obtain ⟨tl, ls, rfl, hlt, hlq⟩ := hlo1
          have el2 : ls.length = k.loose.length := hlq.length
          refine iteT ⟨_, rfl, p, Ck, dx, _, _, rfl, hp1, T.clK, T.kLoo, kf_loo, tl, ls, rfl, .inl (sqT hlt), _, rfl, (by show 2 ≤ sizeLine; exact small (by decide)), fun t1 n1 => ?_⟩
          refine ⟨by rw [List.length_append]; exact small (by show ls.length + 1 ≤ 100000; omega), fun t2 n2 => ?_⟩
          have hp2 : upd (upd H1 t1 (.tup [.str "promise", .int e])) t2 (.tup (ls ++ [.ref t1])) p = some (.ins Ck dx (kf k.num rv (.ref tl) wv)) := by
            have e1 : upd H1 t1 (.tup [.str "promise", .int e]) p = some (.ins Ck dx (kf k.num rv (.ref tl) wv)) := by rw [upd_ne (ne_of_none hp1 n1)]; exact hp1
            rw [upd_ne (ne_of_none e1 n2)]; exact e1
          refine ⟨_, rfl, p, Ck, dx, _, rfl, hp2, T.clK, T.kLoo, (by show 4 < 1000; decide), ?_⟩
          obtain ⟨z1, z2, z3, z4, z5⟩ := note_at (C := Ck) (k := k) (r := .pr e) (xs := [.str "promise", .int e]) hp1 hre1 hlt hlq hwa1 n1 ⟨t1, rfl, upd_same⟩ n2
          exact fin _ _ (k.note (.pr e)) rfl rfl rfl z1 z2 z3 z4 z5 kfin
        · rw [show decide (k.known.ep < Lt.ep (.ask e n)) = false from decide_eq_false c2]
          rw [if_neg c2] at kfin
          exact iteF (fin _ _ k rfl rfl rfl hp1 hre1 hlo1 hwa1 .refl kfin)
      | write e n q y =>
        rw [show decide (V.str (Lt.word (.write e n q y)) = V.str "ask") = false from (by decide +kernel : decide (V.str "write" = V.str "ask") = false)]
        rw [handle_write (e := e) (n := n) (p := q) (x := y) c] at kfin
        obtain ⟨t', e', ht2⟩ := hl1
        cases e'
        refine iteF ⟨_, rfl, p, dx, _, rfl, hp1, by rfl, _, rfl, _, rfl, _, rfl, t, _, _, _, rfl, rfl, sqT ht2, at3, _, rfl, t, _, _, _, rfl, rfl, sqT ht2, at4, ?_⟩
        have hlen : k.known.row.length ≤ 5000 := by
          have h := recOf_len (k.recs ++ k.loose)
          rw [List.length_append] at h
          exact Nat.le_trans h hz
        exact ⟨p, r, rl, k, k.known, e, q, y, rfl, hk1, hR, npr, npl, hlen, hz, hzw, kfin⟩
      | refused e n q => cases hd
      | told e n q => cases hd
      | taken e n q => cases hd
end
end K49

/-! K49L: the mirror's plain laws: the newest row, sorted counts. -/
namespace K49
theorem fold_max_ge : ∀ (l : List (List Pr)) (m : Nat), m ≤ l.foldl (fun m r => max m r.length) m ∧ ∀ r ∈ l, r.length ≤ l.foldl (fun m r => max m r.length) m
  | [], m => ⟨Nat.le_refl _, fun r h => by cases h⟩
  | a :: l, m => by
    obtain ⟨h1, h2⟩ := fold_max_ge l (max m a.length)
    refine ⟨Nat.le_trans (Nat.le_max_left _ _) h1, fun r h => ?_⟩
    rcases List.mem_cons.mp h with rfl | h
    · exact Nat.le_trans (Nat.le_max_right _ _) h1
    · exact h2 r h
theorem fold_max_in : ∀ (l : List (List Pr)) (m : Nat), l.foldl (fun m r => max m r.length) m = m ∨ ∃ r ∈ l, l.foldl (fun m r => max m r.length) m = r.length
  | [], m => .inl rfl
  | a :: l, m => by
    rcases fold_max_in l (max m a.length) with h | ⟨r, hr, e⟩
    · by_cases c : m ≤ a.length
      · refine .inr ⟨a, List.mem_cons_self .., ?_⟩
        show l.foldl (fun m r => max m r.length) (max m a.length) = a.length
        rw [h]; exact Nat.max_eq_right c
      · refine .inl ?_
        show l.foldl (fun m r => max m r.length) (max m a.length) = m
        rw [h]; exact Nat.max_eq_left (by omega)
    · exact .inr ⟨r, List.mem_cons_of_mem _ hr, e⟩
theorem longest_is {rows : List (List Pr)} {m : Int} (h : m ∈ (0 : Int) :: rows.map fun r => (r.length : Int)) (hm : ∀ y ∈ (0 : Int) :: rows.map (fun r => (r.length : Int)), y ≤ m) : m = (longest rows : Int) := by
  have g1 := (fold_max_ge rows 0).2
  have g2 := fold_max_in rows 0
  have h0 : 0 ≤ m := hm 0 (List.mem_cons_self ..)
  have hr : ∀ r ∈ rows, (r.length : Int) ≤ m := fun r hr => hm _ (List.mem_cons_of_mem _ (List.mem_map_of_mem (f := fun r : List Pr => (r.length : Int)) hr))
  unfold longest
  rcases List.mem_cons.mp h with e | h
  · rcases g2 with g2 | ⟨r, hr2, g2⟩
    · rw [g2, e]; rfl
    · have := hr r hr2
      rw [g2]; omega
  · obtain ⟨r, hr1, e⟩ := List.mem_map.mp h
    have a1 := g1 r hr1
    rcases g2 with g2 | ⟨r2, hr2, g2⟩
    · rw [g2] at a1 ⊢
      omega
    · have := hr r2 hr2
      rw [g2] at a1 ⊢
      omega
theorem take_snoc {α : Type} : ∀ {l : List α} {i : Nat} {x : α}, l[i]? = some x → l.take (i + 1) = l.take i ++ [x]
  | [], i, x, h => by simp at h
  | a :: l, 0, x, h => by
    have e : a = x := Option.some.inj h
    subst e
    rfl
  | a :: l, i + 1, x, h => by
    have ih := take_snoc (l := l) (i := i) (x := x) (by simpa using h)
    rw [List.take_succ_cons, List.take_succ_cons, ih, List.cons_append]
theorem known_more {rows : List (List Pr)} {i p : Nat} {r : List Pr} (h : rows[i]? = some r) : knownAt (rows.take (i + 1)) p = knownAt (rows.take i) p ++ (match r[p]? with | some q => [q] | none => []) := by
  unfold knownAt
  rw [take_snoc h, List.filterMap_append]
  congr 1
  cases e : r[p]? with
  | none => simp [List.filterMap_cons, e]
  | some q => simp [List.filterMap_cons, e]
theorem known_ne {rows : List (List Pr)} {p : Nat} (h : p < longest rows) : knownAt rows p ≠ [] := by
  rcases fold_max_in rows 0 with g | ⟨r, hr, g⟩
  · unfold longest at h; rw [g] at h; omega
  · unfold longest at h
    rw [g] at h
    intro z
    have hq : r[p]? = some r[p] := List.getElem?_eq_getElem h
    have : r[p] ∈ knownAt rows p := List.mem_filterMap.mpr ⟨r, hr, hq⟩
    rw [z] at this
    cases this
theorem fold_most : ∀ (l : List Pr) (m : Int), m ≤ l.foldl (fun m q => max m q.1) m ∧ (∀ q ∈ l, q.1 ≤ l.foldl (fun m q => max m q.1) m) ∧ (l.foldl (fun m q => max m q.1) m = m ∨ ∃ q ∈ l, l.foldl (fun m q => max m q.1) m = q.1)
  | [], m => ⟨Int.le_refl _, fun r h => (by cases h), .inl rfl⟩
  | a :: l, m => by
    obtain ⟨h1, h2, h3⟩ := fold_most l (max m a.1)
    refine ⟨Int.le_trans (Int.le_max_left _ _) h1, fun r h => ?_, ?_⟩
    · rcases List.mem_cons.mp h with rfl | h
      · exact Int.le_trans (Int.le_max_right _ _) h1
      · exact h2 r h
    · rcases h3 with h | ⟨r, hr, e⟩
      · by_cases c : m ≤ a.1
        · refine .inr ⟨a, List.mem_cons_self .., ?_⟩
          show l.foldl (fun m q => max m q.1) (max m a.1) = a.1
          rw [h]; exact Int.max_eq_right c
        · refine .inl ?_
          show l.foldl (fun m q => max m q.1) (max m a.1) = m
          rw [h]; exact Int.max_eq_left (by omega)
      · exact .inr ⟨r, List.mem_cons_of_mem _ hr, e⟩
theorem most_in {l : List Pr} (h : l ≠ []) : (∃ q ∈ l, q.1 = mostOf l) ∧ ∀ q ∈ l, q.1 ≤ mostOf l := by
  cases l with
  | nil => exact absurd rfl h
  | cons a r =>
    obtain ⟨h1, h2, h3⟩ := fold_most r a.1
    refine ⟨?_, fun q hq => ?_⟩
    · rcases h3 with h3 | ⟨q, hq, e⟩
      · exact ⟨a, List.mem_cons_self .., h3.symm⟩
      · exact ⟨q, List.mem_cons_of_mem _ hq, e.symm⟩
    · rcases List.mem_cons.mp hq with rfl | hq
      · exact h1
      · exact h2 q hq
theorem most_is {l : List Pr} {m : Int} (h : m ∈ l.map (·.1)) (hm : ∀ y ∈ l.map (·.1), y ≤ m) : m = mostOf l := by
  have hne : l ≠ [] := fun z => by rw [z] at h; cases h
  obtain ⟨⟨q, hq, e⟩, h2⟩ := most_in hne
  obtain ⟨q2, hq2, e2⟩ := List.mem_map.mp h
  have a1 := hm q.1 (List.mem_map_of_mem (f := fun q : Pr => q.1) hq)
  have a2 := h2 q2 hq2
  have e2' : q2.1 = m := e2
  omega
theorem pick_ne {rows : List (List Pr)} {p : Nat} (h : p < longest rows) : ∃ q r, ((knownAt rows p).filter fun q => decide (q.1 = mostOf (knownAt rows p))) = q :: r ∧ pick rows p = q.2 := by
  obtain ⟨⟨q, hq, e⟩, _⟩ := most_in (known_ne h)
  have hm : q ∈ (knownAt rows p).filter fun q => decide (q.1 = mostOf (knownAt rows p)) := List.mem_filter.mpr ⟨hq, decide_eq_true e⟩
  unfold pick
  cases e2 : (knownAt rows p).filter fun q => decide (q.1 = mostOf (knownAt rows p)) with
  | nil => rw [e2] at hm; cases hm
  | cons a r => exact ⟨a, r, rfl, rfl⟩
theorem range_snoc {α : Type} (f : Nat → α) (i : Nat) : (List.range (i + 1)).map f = (List.range i).map f ++ [f i] := by
  rw [List.range_succ, List.map_append]; rfl
theorem range_fm {α : Type} (f : Nat → Option α) (i : Nat) : (List.range (i + 1)).filterMap f = (List.range i).filterMap f ++ (match f i with | some x => [x] | none => []) := by
  rw [List.range_succ, List.filterMap_append]
  congr 1
  cases e : f i with
  | none => simp [List.filterMap_cons, e]
  | some x => simp [List.filterMap_cons, e]
/-! ### sorted ints -/
theorem srt_perm (l : List Int) : (srt l).Perm l := List.mergeSort_perm l _
theorem srt_sorted (l : List Int) : (srt l).Pairwise (· ≤ ·) := by
  have h := List.pairwise_mergeSort (le := fun a b : Int => decide (a ≤ b)) (fun a b c h1 h2 => by simp only [decide_eq_true_eq] at h1 h2 ⊢; omega) (fun a b => by simp only [Bool.or_eq_true, decide_eq_true_eq]; omega) l
  exact List.Pairwise.imp (fun h => of_decide_eq_true h) h
theorem sorted_one : ∀ {l1 l2 : List Int}, l1.Perm l2 → l1.Pairwise (· ≤ ·) → l2.Pairwise (· ≤ ·) → l1 = l2
  | [], l2, p, _, _ => (List.Perm.nil_eq p)
  | a :: l1, l2, p, s1, s2 => by
    cases l2 with
    | nil => exact absurd p.length_eq (by simp)
    | cons b l2 =>
      have ha : a ∈ b :: l2 := p.mem_iff.mp (List.mem_cons_self ..)
      have hb : b ∈ a :: l1 := p.mem_iff.mpr (List.mem_cons_self ..)
      have h1 := List.pairwise_cons.mp s1
      have h2 := List.pairwise_cons.mp s2
      have e : a = b := by
        rcases List.mem_cons.mp ha with e | ha
        · exact e
        · rcases List.mem_cons.mp hb with e | hb
          · exact e.symm
          · have := h1.1 b hb
            have := h2.1 a ha
            omega
      subst e
      rw [sorted_one (List.Perm.cons_inv p) h1.2 h2.2]
theorem srt_is {l ns : List Int} (p : ns.Perm l) (s : ns.Pairwise (· ≤ ·)) : ns = srt l := sorted_one (p.trans (srt_perm l).symm) s (srt_sorted l)
theorem srt_len (l : List Int) : (srt l).length = l.length := (srt_perm l).length_eq
end K49

/-! K49W4: newest_row. -/
namespace K49
open PySem PySem.Spec PyProof.Rows L2
abbrev sNewest : Stmt := top 16
def spNewest : Sp := fun vs H Q _ => ∃ (a : Addr) (rvs : List V) (rows : List (List Pr)), vs = [.ref a] ∧ H a = some (.lst rvs) ∧ Paired (RowV H) rvs rows ∧ rows.length ≤ 1000 ∧ (∀ r ∈ rows, r.length ≤ 5000) ∧
  ∀ (p : Addr) (H' : Hp), H' p = some (.lst ((newest rows).map V.int)) → H p = none → Kpt No H H' → Q (.ref p) H'
theorem yes {A B : Hp → Prop} {σ : L2.St} {H : Hp} (h : A H) : tYes σ H (fun b H3 => if b = true then A H3 else B H3) := by
  show if true = true then A H else B H
  rw [if_pos rfl]
  exact h
abbrev tLenS (K : PySem.W.Frag) (t : TE) : TE := tCB (fun xs H Q => ∃ p ys, xs = [.ref p] ∧ (SqL K H p ys ∨ SqT K H p ys) ∧ Q (.int ys.length) H) (tCons t tNil)
section
variable {P : Program} {w : World} {K : PySem.W.Frag} {mg : Str → Option Value} {base : Heap} {Cr Ck Cs Cc : Addr}
abbrev nNewest : List Str := ["rows", "found", "longest", "place", "known", "most", "row", "epoch", "entry"]
theorem scNewest : FnScope nNewest ["rows"] (defScope sNewest) := ⟨rfl, rfl, rfl, by decide +kernel, rfl, by decide +kernel, by decide +kernel⟩
theorem ok_newest {f : Addr} {fd : FuncData} (F : Fun K "newest_row" "newest_row" sNewest f fd) (T : Txt K mg Cr Ck Cs Cc) : FnOk P w K mg base CX0 1 f fd ["rows"] spNewest := by
  refine F.ok scNewest (fun vs H Q E h => ?_) (fun cdv A outer s H vs Q E hr h => ?_)
  · obtain ⟨a, rvs, rows, rfl, _⟩ := h
    rfl
  · obtain ⟨a, rvs, rows, rfl, ha, hq, hz, hzr, kk⟩ := h
    refine ⟨_, pss_cons (ps_par (i := 1) (j := 2) rfl scNewest.nd rfl rfl (by decide) rfl rfl (pa_cons (pe_lst pa_nil) (pa_cons (pe_callB (cr_max rfl) (by rfl) T.b.max (by decide +kernel) (pa_cons (pe_lst (pa_cons pe_int (StX.pa_star
          (pe_lc (own := [("row", 6)]) (g := gName 6) (tt := tYes) (te := tLenS K (tVar 6)) rfl scNewest.nd (pi_list (pv 0)) (blkOk_by (N := nNewest) (sc := defScope sNewest) (by decide +kernel)) (fun _ _ _ _ _ => pg_name (i := 6) scNewest.nd rfl (Or.inl rfl)) (fun _ _ _ _ _ => pts_nil)
            (fun _ _ _ _ _ => pe_callB call_len_seq (by rfl) T.b.len PySem.boot_len (pa_cons (pv 6) pa_nil))) pa_nil))) pa_nil)) pa_nil)) (by rfl))
      (pss_cons (ps_for PassesOwn.never rfl (pi_range1 rfl T.b.range (pa_cons (pv 2) pa_nil)) (pg_name (i := 3) scNewest.nd rfl (Or.inr rfl))
        (pss_cons (ps_setLc (i := 4) (own := [("row", 6)]) (g := gName 6) (tt := tTest (tOp (rI0 fun i j => .bl (decide (j < i))) (tLenS K (tVar 6)) (tVar 3))) (te := tOp (rIxT K) (tVar 6) (tVar 3)) (by rfl) scNewest.nd rfl rfl (sw_true rfl rfl rfl (by decide +kernel)) (pi_list (pv 0)) (blkOk_by (N := nNewest) (sc := defScope sNewest) (by decide +kernel)) (fun _ _ _ _ _ => pg_name (i := 6) scNewest.nd rfl (Or.inl rfl))
            (fun _ _ _ _ _ => pts_one (pt_cmpR op_gt (pe_callB call_len_seq (by rfl) T.b.len PySem.boot_len (pa_cons (pv 6) pa_nil)) (pv 3) (nomark _))) (fun _ _ _ _ _ => pe_ix ix_tup (pv 6) (pv 3) (fun _ _ => rfl)))
          (pss_cons (ps_set (i := 5) scNewest.nd rfl (Or.inr rfl) (pe_callB (cr_max rfl) (by rfl) T.b.max (by decide +kernel) (pa_cons
            (pe_lc (own := [("epoch", 7), ("entry", 8)]) (g := gTup K 2 (gCons (gName 7) (gCons (gName 8) gNil))) (tt := tYes) rfl scNewest.nd (pi_list (pv 4)) (blkOk_by (N := nNewest) (sc := defScope sNewest) (by decide +kernel))
              (fun _ _ _ _ _ => by exact pg_tup rfl (pgs_cons (pg_name (i := 7) scNewest.nd rfl (Or.inl rfl)) (pgs_cons (pg_name (i := 8) scNewest.nd rfl (Or.inl rfl)) pgs_nil))) (fun _ _ _ _ _ => pts_nil) (fun _ _ _ _ _ => pv 7)) pa_nil)))
          (pss_one (ps_expr (pe_bm PySem.F.plainAttrs_list PySem.F.slot_list_append PySem.F.type_list_append mt_append (pv 1) (pa_cons (pe_ix ix_list
            (pe_lc (own := [("epoch", 7), ("entry", 8)]) (g := gTup K 2 (gCons (gName 7) (gCons (gName 8) gNil))) rfl scNewest.nd (pi_list (pv 4)) (blkOk_by (N := nNewest) (sc := defScope sNewest) (by decide +kernel))
              (fun _ _ _ _ _ => by exact pg_tup rfl (pgs_cons (pg_name (i := 7) scNewest.nd rfl (Or.inl rfl)) (pgs_cons (pg_name (i := 8) scNewest.nd rfl (Or.inl rfl)) pgs_nil))) (fun _ _ _ _ _ => pts_one (pt_cmpR op_eq (pv 7) (pv 5) (nomark _))) (fun _ _ _ _ _ => pv 8)) pe_int (fun _ _ => rfl)) pa_nil)))))))
      (pss_one (ps_ret (pv 1)))), ?_⟩
    refine ⟨Nat.zero_le _, fun fl nfl => ?_⟩
    have k1 : Kpt No H (upd H fl (.lst [])) := Kpt.new nfl
    have hfl1 : upd H fl (.lst []) fl = some (.lst []) := upd_same
    generalize upd H fl (.lst []) = H1 at *
    have ha1 := k1.same _ _ ha
    -- max([0, *[len(row) for row in rows]])
    refine ⟨_, rfl, a, rfl, ⟨_, sqL ha1⟩, fun D nD => lc_list (K := K) (a := a) (xs := rvs) (fun i H2 => H2 D = some (.lst (((rows.take i).map fun r => (r.length : Int)).map V.int)) ∧ Kpt No H1 H2)
      ⟨upd_same, Kpt.new nD⟩ (fun i H2 _ ⟨_, k2⟩ => sqL (k2.same _ _ ha1)) (fun i x H2 hx ⟨hD, k2⟩ => ?_) (fun H2 ⟨hD, k2⟩ => ?_)⟩
    · obtain ⟨r, hrr, ar, rvs', rfl, hra, hrq⟩ := Pd.getL hq hx
      refine ⟨rfl, yes ⟨_, rfl, ar, rvs', rfl, .inr (sqT (k2.tup _ _ (k1.tup _ _ hra))), _, hD, ?_, ?_, k2.up nD⟩⟩
      · rw [List.length_map, List.length_map, List.length_take]
        exact smallT (by omega)
      · rw [upd_same, take_snoc hrr, List.map_append, List.map_append, hrq.length]
        rfl
    refine ⟨D, _, rfl, .inr (sqL hD), ?_⟩
    rw [hq.length, List.take_length]
    refine ⟨?_, fun q nq => ?_⟩
    · rw [List.length_cons, List.length_append, List.length_map, List.length_map]
      exact small (by show rows.length + 0 + 1 ≤ 100000; omega)
    have k3 : Kpt No H2 (upd H2 q (.lst (.int 0 :: ((rows.map fun r => (r.length : Int)).map V.int ++ [])))) := Kpt.new nq
    refine ⟨q, (0 : Int) :: rows.map fun r => (r.length : Int), rfl, sqL (by rw [upd_same, List.append_nil]; rfl), by simp, fun m hm hle => ?_⟩
    have em := longest_is hm hle
    subst em
    have k13 := (k1.trans k2).trans k3
    have hfl3 := k3.same _ _ (k2.same _ _ hfl1)
    clear hD nq hm hle k3 k2 k1 hfl1 ha1 nD
    generalize upd H2 q (.lst (.int 0 :: ((rows.map fun r => (r.length : Int)).map V.int ++ []))) = H3 at *
    refine ⟨_, _, rfl, ?_⟩
    -- for place in range(longest)
    have hlb : longest rows ≤ 5000 := longest_fold rows 0 5000 (Nat.zero_le _) hzr
    have en : ((longest rows : Nat) : Int).toNat = longest rows := Int.toNat_natCast _
    refine ⟨_, rfl, _, rfl, by omega, by omega, ?_⟩
    rw [en]
    refine for_range (lo := 0) (n := longest rows) (fun i σ H' => ∃ v3 v4 v5 : Option V, σ = [some (.ref a), some (.ref fl), some (.int (longest rows : Nat)), v3, v4, v5, none, none, none] ∧ H' fl = some (.lst (((List.range i).map (pick rows)).map V.int)) ∧ Kpt No H H')
      ⟨none, none, none, rfl, hfl3, k13⟩ ?_ ?_
    · rintro i σ H' hi ⟨v3, v4, v5, rfl, hfl, k⟩
      rw [Int.zero_add]
      have ha' := k.same _ _ ha
      have hq' := Pd.mono (fun _ _ z => RowV.mono k.tup z) hq
      -- known = [row[place] for row in rows if len(row) > place]
      refine ⟨_, rfl, a, rfl, ⟨_, sqL ha'⟩, fun D1 n1 => lc_list (K := K) (a := a) (xs := rvs) (fun j H2 => (∃ acc, H2 D1 = some (.lst acc) ∧ Paired (PrV H2) acc (knownAt (rows.take j) i) ∧ acc.length ≤ j) ∧ Kpt No H' H2)
        ⟨⟨[], upd_same, .nil, Nat.le_refl _⟩, Kpt.new n1⟩ (fun j H2 _ ⟨_, k2⟩ => sqL (k2.same _ _ ha')) (fun j x H2 hx ⟨⟨acc, hD, hacc, hl⟩, k2⟩ => ?_) (fun H2 ⟨⟨acc, hD, hacc, hl⟩, k2⟩ => ?_)⟩
      · obtain ⟨r, hrr, ar, rvs', rfl, hra, hrq⟩ := Pd.getL hq' hx
        have hra2 := k2.tup _ _ hra
        have hrq2 := Pd.mono (fun _ _ z => PrV.mono k2.tup z) hrq
        have hjl : j < rvs.length := (List.getElem?_eq_some_iff.mp hx).1
        have hql := hq.length
        refine ⟨rfl, _, rfl, ar, rvs', rfl, .inr (sqT hra2), _, rfl, _, _, rfl, rfl, _, rfl, ?_⟩
        by_cases c : i < r.length
        · rw [decide_eq_true (show (i : Int) < (rvs'.length : Int) by rw [hrq.length]; omega)]
          obtain ⟨v, hv, hvq⟩ := Pd.get hrq2 (List.getElem?_eq_getElem c)
          refine iteT ⟨_, rfl, _, rfl, ar, rvs', _, v, rfl, rfl, sqT hra2, at_of (j := i) rfl hv, acc, hD, smallT (by omega), ⟨_, upd_same, ?_, by rw [List.length_append]; exact Nat.add_le_add_right hl 1⟩, k2.up n1⟩
          rw [known_more hrr, List.getElem?_eq_getElem c]
          have ku : TupS H2 (upd H2 D1 (.lst (acc ++ [v]))) := (Kpt.wr (M := fun b => b = D1) rfl hD lst_tup).tup
          exact Pd.app (Pd.mono (fun _ _ z => PrV.mono ku z) hacc) (.cons (hvq.mono ku) .nil)
        · rw [decide_eq_false (show ¬ (i : Int) < (rvs'.length : Int) by rw [hrq.length]; omega)]
          refine iteF ⟨⟨acc, hD, ?_, Nat.le_succ_of_le hl⟩, k2⟩
          rw [known_more hrr, List.getElem?_eq_none (by omega), List.append_nil]
          exact hacc
      rw [hq.length, List.take_length] at hacc
      have haccl : acc.length ≤ 1000 := by have := hq.length; omega
      have hfl2 := k2.same _ _ hfl
      have k02 := k.trans k2
      clear k2 n1 ha' hq'
      -- most = max([epoch for epoch, entry in known])
      refine ⟨_, rfl, D1, rfl, ⟨_, sqL hD⟩, fun D2 n2 => lc_list (K := K) (a := D1) (xs := acc) (fun j H4 => H4 D2 = some (.lst ((((knownAt rows i).take j).map (·.1)).map V.int)) ∧ Kpt No H2 H4)
        ⟨upd_same, Kpt.new n2⟩ (fun j H4 _ ⟨_, k4⟩ => sqL (k4.same _ _ hD)) (fun j x H4 hx ⟨hD2, k4⟩ => ?_) (fun H4 ⟨hD2, k4⟩ => ?_)⟩
      · obtain ⟨pq, hpq, pa, rfl, hpa⟩ := Pd.getL hacc hx
        refine ⟨pa, _, rfl, sqT (k4.tup _ _ hpa), rfl, _, _, rfl, _, _, rfl, rfl, rfl, yes ⟨_, rfl, _, hD2, ?_, ?_, k4.up n2⟩⟩
        · rw [List.length_map, List.length_map, List.length_take, ← hacc.length]
          exact smallT (by omega)
        · rw [upd_same, take_snoc hpq, List.map_append, List.map_append]
          rfl
      rw [hacc.length, List.take_length] at hD2
      refine ⟨D2, (knownAt rows i).map (·.1), rfl, sqL hD2, ?_, fun m hm hle => ?_⟩
      · rw [List.length_map]
        exact List.length_pos_iff.mpr (known_ne hi)
      have em := most_is hm hle
      subst em
      have hD4 := k4.same _ _ hD
      have hacc4 := Pd.mono (fun _ _ z => PrV.mono k4.tup z) hacc
      have hfl4 := k4.same _ _ hfl2
      have k04 := k02.trans k4
      clear hm hle hD2 n2 k4 hD hacc hfl2 k02
      -- found.append([entry for epoch, entry in known if epoch == most][0])
      obtain ⟨pq0, pr0, ef, ep⟩ := pick_ne hi
      refine ⟨_, rfl, .inl ⟨rfl, _, sqL hfl4⟩, _, rfl, D1, rfl, ⟨_, sqL hD4⟩, fun D3 n3 => lc_list (K := K) (a := D1) (xs := acc)
        (fun j H5 => H5 D3 = some (.lst (((((knownAt rows i).take j).filter fun q => decide (q.1 = mostOf (knownAt rows i))).map (·.2)).map V.int)) ∧ Kpt No H4 H5)
        ⟨upd_same, Kpt.new n3⟩ (fun j H5 _ ⟨_, k5⟩ => sqL (k5.same _ _ hD4)) (fun j x H5 hx ⟨hD3, k5⟩ => ?_) (fun H5 ⟨hD3, k5⟩ => ?_)⟩
      · obtain ⟨pq, hpq, pa, rfl, hpa⟩ := Pd.getL hacc4 hx
        refine ⟨pa, _, rfl, sqT (k5.tup _ _ hpa), rfl, _, _, rfl, _, _, rfl, rfl, rfl, _, rfl, _, rfl, rfl, _, rfl, ?_⟩
        by_cases c : pq.1 = mostOf (knownAt rows i)
        · rw [decide_eq_true (show V.int pq.1 = V.int (mostOf (knownAt rows i)) by rw [c])]
          refine iteT ⟨_, rfl, _, hD3, ?_, ?_, k5.up n3⟩
          · rw [List.length_map, List.length_map]
            refine smallT (Nat.le_trans (List.length_filter_le _ _) ?_)
            rw [List.length_take, ← hacc4.length]
            omega
          · rw [upd_same, take_snoc hpq, List.filter_append, List.map_append, List.map_append, List.filter_cons, if_pos (decide_eq_true c)]
            rfl
        · rw [decide_eq_false (show ¬ V.int pq.1 = V.int (mostOf (knownAt rows i)) from fun z => c (V.int.inj z))]
          refine iteF ⟨?_, k5⟩
          rw [take_snoc hpq, List.filter_append, List.filter_cons, if_neg (by simpa using c), List.filter_nil, List.append_nil]
          exact hD3
      rw [hacc4.length, List.take_length, ef] at hD3
      have hfl5 := k5.same _ _ hfl4
      refine ⟨D3, _, _, _, rfl, rfl, sqL hD3, at0, fl, _, _, rfl, rfl, hfl5, ?_, ?_⟩
      · rw [List.length_map, List.length_map, List.length_range]
        exact smallT (by omega)
      · refine ⟨_, _, _, rfl, ?_, (k04.trans k5).up nfl⟩
        rw [upd_same, range_snoc, List.map_append, ep]
        rfl
    · rintro σ H' ⟨v3, v4, v5, rfl, hfl, k⟩
      exact ⟨_, rfl, kk fl H' hfl nfl k⟩
end
end K49

/-! K49W5: sequencers: made, add, settled, to_send. -/
namespace K49
open PySem PySem.Spec PyProof.Rows L2
abbrev sSqInit : Stmt := inClass (top 17) 0
abbrev sSqSend : Stmt := inClass (top 17) 1
abbrev sSqHear : Stmt := inClass (top 17) 2
abbrev sSqAdd : Stmt := inClass (top 17) 3
abbrev sSqSettled : Stmt := inClass (top 17) 4
section
variable (Cs : Addr)
def spSqInit : Sp := fun vs H Q _ => ∃ (p dx : Addr) (e : Int) (m : Nat), vs = [.ref p, .int e, .int m] ∧ H p = some (.ins Cs dx []) ∧ m ≤ 1000 ∧
  ∀ (a : SA) (H' : Hp), a.p = p → SqAt Cs H' a (.new e m) → (∀ b, a.mem b → b = p ∨ H b = none) → Kpt (fun b => b = p) H H' → Q .non H'
def spSqAdd : Sp := fun vs H Q _ => ∃ (a : SA) (s : Sq) (x : Int), vs = [.ref a.p, .int x] ∧ SqAt Cs H a s ∧ s.st = .leading ∧ s.row.length ≤ 5000 ∧
  ∀ H' : Hp, SqAt Cs H' a (s.add x) → Kpt a.mem H H' → Q .non H'
def spSqSettled : Sp := fun vs H Q _ => ∃ (a : SA) (s : Sq), vs = [.ref a.p] ∧ SqAt Cs H a s ∧ s.many ≤ 60 ∧ 1 ≤ s.many ∧ s.tk.length = s.many ∧
  ∀ (t : Addr) (H' : Hp), H' t = some (.tup (s.settled.map V.int)) → Kpt No H H' → Q (.ref t) H'
def spSqSend : Sp := fun vs H Q _ => ∃ (a : SA) (s : Sq), vs = [.ref a.p] ∧ SqAt Cs H a s ∧ s.many ≤ 60 ∧ s.tk.length = s.many ∧
  ∀ (v : V) (H' : Hp), LtsV H' v s.toSend → Kpt No H H' → Q v H'
def spSqHear : Sp := fun vs H Q _ => ∃ (a : SA) (s : Sq) (lv : V) (l : Lt) (m c : Nat), vs = [.ref a.p, lv] ∧ SqAt Cs H a s ∧ LtV H lv l ∧ l.down = false ∧ SqOk m c s ∧ m ≤ 60 ∧ LtOk m l ∧
  ∀ (a' : SA) (H' : Hp), a'.p = a.p → SqAt Cs H' a' (s.hear l) → (∀ b, a'.mem b → a.mem b ∨ H b = none) → Kpt a.mem H H' → Q .non H'
end
section
variable {P : Program} {w : World} {K : PySem.W.Frag} {mg : Str → Option Value} {base : Heap} {Cr Ck Cs Cc : Addr}
theorem scSqInit : FnScope ["self", "epoch", "many", "number"] ["self", "epoch", "many"] (defScope sSqInit) := ⟨rfl, rfl, rfl, by decide +kernel, rfl, by decide +kernel, by decide +kernel⟩
theorem ok_sqInit {f : Addr} {fd : FuncData} (F : Fun K "__init__" "Sequencer.__init__" sSqInit f fd) (T : Txt K mg Cr Ck Cs Cc) : FnOk P w K mg base CX0 1 f fd ["self", "epoch", "many"] (spSqInit Cs) := by
  refine F.ok scSqInit (fun vs H Q E h => ?_) (fun cdv A outer s H vs Q E hr h => ?_)
  · obtain ⟨p, dx, e, m, rfl, _⟩ := h
    rfl
  · obtain ⟨p, dx, e, m, rfl, hp, hm, kk⟩ := h
    obtain ⟨tA, hA⟩ := T.ask
    refine ⟨_, pss_cons (ps_fld (pv 0) (pv 1) rfl) (pss_cons (ps_fld (pv 0) (pv 2) rfl) (pss_cons (ps_fld (pv 0) (pe_glob (v := .str "asking") rfl hA ⟨_, rfl⟩) rfl) (pss_cons (ps_fld (pv 0) pe_dnewK rfl) (pss_cons (ps_fld (pv 0) (pe_lst pa_nil) rfl)
      (pss_one (ps_fld (pv 0) (pe_dc (own := [("number", 3)]) (g := gName 3) (tt := tYes) (tk := tVar 3) (tv := tC (.int 0)) rfl scSqInit.nd (pi_range1 rfl T.b.range (pa_cons (pv 2) pa_nil)) (blkOk_by (N := ["self", "epoch", "many", "number"]) (sc := defScope sSqInit) (by decide +kernel))
        (fun _ _ _ _ _ => pg_name (i := 3) scSqInit.nd rfl (Or.inl rfl)) (fun _ _ _ _ _ => pts_nil) (fun _ _ _ _ _ => pv 3) (fun _ _ _ _ _ => pe_int)) rfl)))))), ?_⟩
    refine ⟨_, rfl, _, rfl, p, Cs, dx, [], rfl, hp, T.clS, T.sEp, (by show 0 < 1000; decide), ?_⟩
    have k1 : Kpt (fun b => b = p) H (upd H p (.ins Cs dx (putF "epoch" (.int e) []))) := Kpt.wr rfl hp ins_tup
    have hp1 : upd H p (.ins Cs dx (putF "epoch" (.int e) [])) p = some (.ins Cs dx [("epoch", .int e)]) := upd_ins rfl
    generalize upd H p (.ins Cs dx (putF "epoch" (.int e) [])) = H1 at *
    refine ⟨_, rfl, _, rfl, p, Cs, dx, _, rfl, hp1, T.clS, T.sMan, (by show 1 < 1000; decide), ?_⟩
    have k2 : Kpt (fun b => b = p) H1 (upd H1 p (.ins Cs dx (putF "many" (.int m) [("epoch", .int e)]))) := Kpt.wr rfl hp1 ins_tup
    have hp2 : upd H1 p (.ins Cs dx (putF "many" (.int m) [("epoch", .int e)])) p = some (.ins Cs dx [("epoch", .int e), ("many", .int m)]) := upd_ins rfl
    replace k2 := k1.trans k2
    generalize upd H1 p (.ins Cs dx (putF "many" (.int m) [("epoch", .int e)])) = H2 at *
    refine ⟨_, rfl, p, Cs, dx, _, rfl, hp2, T.clS, T.sSt, (by show 2 < 1000; decide), ?_⟩
    have k3 : Kpt (fun b => b = p) H2 (upd H2 p (.ins Cs dx (putF "stand" (.str "asking") [("epoch", .int e), ("many", .int m)]))) := Kpt.wr rfl hp2 ins_tup
    have hp3 : upd H2 p (.ins Cs dx (putF "stand" (.str "asking") [("epoch", .int e), ("many", .int m)])) p = some (.ins Cs dx [("epoch", .int e), ("many", .int m), ("stand", .str "asking")]) := upd_ins rfl
    replace k3 := k2.trans k3
    generalize upd H2 p (.ins Cs dx (putF "stand" (.str "asking") [("epoch", .int e), ("many", .int m)])) = H3 at *
    clear k1 k2 hp1 hp2
    -- self.rows = {}
    intro d nd
    have a4 : upd H3 d (.dK []) p = some (.ins Cs dx [("epoch", .int e), ("many", .int m), ("stand", .str "asking")]) := by rw [upd_ne (ne_of_none hp3 nd)]; exact hp3
    refine ⟨_, rfl, p, Cs, dx, _, rfl, a4, T.clS, T.sRs, (by show 3 < 1000; decide), ?_⟩
    have k4 : Kpt (fun b => b = p) H3 (upd H3 d (.dK [])) := Kpt.new nd
    have k5 : Kpt (fun b => b = p) (upd H3 d (.dK [])) (upd (upd H3 d (.dK [])) p (.ins Cs dx (putF "rows" (.ref d) [("epoch", .int e), ("many", .int m), ("stand", .str "asking")]))) := Kpt.wr rfl a4 ins_tup
    have hp5 : upd (upd H3 d (.dK [])) p (.ins Cs dx (putF "rows" (.ref d) [("epoch", .int e), ("many", .int m), ("stand", .str "asking")])) p = some (.ins Cs dx [("epoch", .int e), ("many", .int m), ("stand", .str "asking"), ("rows", .ref d)]) := upd_ins rfl
    have dp : d ≠ p := (ne_of_none hp3 nd).symm
    have hd5 : upd (upd H3 d (.dK [])) p (.ins Cs dx (putF "rows" (.ref d) [("epoch", .int e), ("many", .int m), ("stand", .str "asking")])) d = some (.dK []) := by rw [upd_ne dp]; exact upd_same
    have fd0 : d = p ∨ H d = none := k3.free nd
    replace k5 := (k3.trans k4).trans k5
    generalize upd (upd H3 d (.dK [])) p (.ins Cs dx (putF "rows" (.ref d) [("epoch", .int e), ("many", .int m), ("stand", .str "asking")])) = H5 at *
    clear k3 k4 a4 hp3 nd
    -- self.row = []
    refine ⟨Nat.zero_le _, fun l nl => ?_⟩
    have a6 : upd H5 l (.lst []) p = some (.ins Cs dx [("epoch", .int e), ("many", .int m), ("stand", .str "asking"), ("rows", .ref d)]) := by rw [upd_ne (ne_of_none hp5 nl)]; exact hp5
    refine ⟨_, rfl, p, Cs, dx, _, rfl, a6, T.clS, T.sRow, (by show 4 < 1000; decide), ?_⟩
    have k6 : Kpt (fun b => b = p) H5 (upd H5 l (.lst [])) := Kpt.new nl
    have k7 : Kpt (fun b => b = p) (upd H5 l (.lst [])) (upd (upd H5 l (.lst [])) p (.ins Cs dx (putF "row" (.ref l) [("epoch", .int e), ("many", .int m), ("stand", .str "asking"), ("rows", .ref d)]))) := Kpt.wr rfl a6 ins_tup
    have hp7 : upd (upd H5 l (.lst [])) p (.ins Cs dx (putF "row" (.ref l) [("epoch", .int e), ("many", .int m), ("stand", .str "asking"), ("rows", .ref d)])) p = some (.ins Cs dx [("epoch", .int e), ("many", .int m), ("stand", .str "asking"), ("rows", .ref d), ("row", .ref l)]) := upd_ins rfl
    have lp : l ≠ p := (ne_of_none hp5 nl).symm
    have hl7 : upd (upd H5 l (.lst [])) p (.ins Cs dx (putF "row" (.ref l) [("epoch", .int e), ("many", .int m), ("stand", .str "asking"), ("rows", .ref d)])) l = some (.lst []) := by rw [upd_ne lp]; exact upd_same
    have hd7 : upd (upd H5 l (.lst [])) p (.ins Cs dx (putF "row" (.ref l) [("epoch", .int e), ("many", .int m), ("stand", .str "asking"), ("rows", .ref d)])) d = some (.dK []) := (k6.trans k7).keep _ _ hd5 dp
    have fl0 : l = p ∨ H l = none := k5.free nl
    replace k7 := (k5.trans k6).trans k7
    generalize upd (upd H5 l (.lst [])) p (.ins Cs dx (putF "row" (.ref l) [("epoch", .int e), ("many", .int m), ("stand", .str "asking"), ("rows", .ref d)])) = H7 at *
    clear k5 k6 a6 hp5 hd5 nl
    -- self.taken = {number: 0 for number in range(many)}
    have en : ((m : Nat) : Int).toNat = m := Int.toNat_natCast _
    refine ⟨_, rfl, _, rfl, by omega, by omega, ?_⟩
    rw [en]
    refine fun D nD => dc_rng (lo := 0) (n := m) (fun i H' => H' D = some (.dK (tkD 0 (List.replicate i 0))) ∧ Kpt No H7 H') ⟨upd_same, Kpt.new nD⟩ (fun i H' hi ⟨hD, k⟩ => ?_) (fun H' ⟨hD, k⟩ => ?_)
    · rw [Int.zero_add]
      refine ⟨rfl, yes ⟨_, rfl, _, .inl (i : Int), rfl, hD, ?_, ?_, k.up nD⟩⟩
      · rw [tkD_len, List.length_replicate]
        exact smallT (by omega)
      · have h := tkD_new (List.replicate i 0) 0
        rw [List.length_replicate] at h
        rw [upd_same]
        show some (HO.dK (putK (tkD 0 (List.replicate i 0)) (.inl (i : Int)) (.int ((0 : Nat) : Int)))) = _
        rw [h, List.replicate_succ']
    · have hp8 := k.same _ _ hp7
      refine ⟨_, rfl, p, Cs, dx, _, rfl, hp8, T.clS, T.sTk, (by show 5 < 1000; decide), ?_⟩
      have k9 : Kpt (fun b => b = p) H' (upd H' p (.ins Cs dx (putF "taken" (.ref D) [("epoch", .int e), ("many", .int m), ("stand", .str "asking"), ("rows", .ref d), ("row", .ref l)]))) := Kpt.wr rfl hp8 ins_tup
      have Dp' : D ≠ p := (ne_of_none hp7 nD).symm
      have k89 := (k.mono (N := fun b => b = p) fun _ z => z.elim).trans k9
      refine kk ⟨p, d, l, D⟩ _ rfl ⟨⟨dx, upd_ins rfl⟩, ⟨[], k89.keep _ _ hd7 dp, .nil⟩, k89.keep _ _ hl7 lp, by rw [upd_ne Dp']; exact hD, ne_of_none hd7 nD⟩ (fun b hb => ?_) (k7.trans k89)
      rcases hb with rfl | rfl | rfl | rfl
      · exact .inl rfl
      · exact fd0
      · exact fl0
      · exact k7.free nD
/-! ### add -/
theorem scSqAdd : FnScope ["self", "entry"] ["self", "entry"] (defScope sSqAdd) := ⟨rfl, rfl, rfl, by decide +kernel, rfl, by decide +kernel, by decide +kernel⟩
theorem ok_sqAdd {f : Addr} {fd : FuncData} (F : Fun K "add" "Sequencer.add" sSqAdd f fd) (T : Txt K mg Cr Ck Cs Cc) : FnOk P w K mg base CX0 1 f fd ["self", "entry"] (spSqAdd Cs) := by
  refine F.ok scSqAdd (fun vs H Q E h => ?_) (fun cdv A outer s H vs Q E hr h => ?_)
  · obtain ⟨a, s, x, rfl, _⟩ := h
    rfl
  · obtain ⟨a, s, x, rfl, S, hst, hz, kk⟩ := h
    obtain ⟨tL, hL⟩ := T.lead
    obtain ⟨dx, hp⟩ := S.ob
    refine ⟨_, pss_cons (ps_if (pt_cmpR op_ne (pe_fld (pv 0) rfl) (pe_glob (v := .str "leading") rfl hL ⟨_, rfl⟩) (nomark _)) pss_never pss_nil)
      (pss_one (ps_expr (pe_bm PySem.F.plainAttrs_list PySem.F.slot_list_append PySem.F.type_list_append mt_append (pe_fld (pv 0) rfl) (pa_cons (pv 1) pa_nil)))), ?_⟩
    refine ⟨_, rfl, a.p, Cs, dx, _, _, rfl, hp, T.clS, T.sSt, sf_st, rfl, _, rfl, ?_⟩
    rw [hst, show (!decide (V.str Sd.leading.str = V.str "leading")) = false from (by decide +kernel : (!decide (V.str "leading" = V.str "leading")) = false)]
    refine iteF ⟨_, rfl, a.p, Cs, dx, _, _, rfl, hp, T.clS, T.sRow, sf_row, .inl ⟨rfl, _, sqL S.row⟩, _, rfl, a.l, _, _, rfl, rfl, S.row, smallT (by rw [List.length_map]; omega), ?_⟩
    have k1 : Kpt a.mem H (upd H a.l (.lst (s.row.map V.int ++ [.int x]))) := Kpt.wr (.inr (.inr (.inl rfl))) S.row lst_tup
    obtain ⟨kvs, hd, hq⟩ := S.rows
    have n1 : a.p ≠ a.l := ne_of hp S.row (by intro z; cases z)
    have n2 : a.d ≠ a.l := ne_of hd S.row (by intro z; cases z)
    have n3 : a.t ≠ a.l := ne_of S.tk S.row (by intro z; cases z)
    exact kk _ ⟨⟨dx, by rw [upd_ne n1]; exact hp⟩, ⟨kvs, by rw [upd_ne n2]; exact hd, Pd.mono (fun _ _ z => z.mono k1.tup) hq⟩, by rw [upd_same]; show _ = some (HO.lst ((s.row ++ [x]).map V.int)); rw [List.map_append]; rfl, by rw [upd_ne n3]; exact S.tk, S.dt⟩ k1
end
end K49

/-! K49W6: sequencers: settled, to_send. -/
namespace K49
open PySem PySem.Spec PyProof.Rows L2
section
variable {P : Program} {w : World} {K : PySem.W.Frag} {mg : Str → Option Value} {base : Heap} {Cr Ck Cs Cc : Addr}
/-! ### settled -/
theorem scSqSettled : FnScope ["self", "counts"] ["self"] (defScope sSqSettled) := ⟨rfl, rfl, rfl, by decide +kernel, rfl, by decide +kernel, by decide +kernel⟩
theorem cnt_nat {s : Sq} {c : Int} (h : (srt (s.tk.map fun (n : Nat) => (n : Int)))[s.many - (s.many / 2 + 1)]? = some c) : ∃ n : Nat, c = n ∧ s.settled = s.row.take n := by
  have hm : c ∈ srt (s.tk.map fun (n : Nat) => (n : Int)) := List.mem_of_getElem? h
  have hm2 := (srt_perm _).mem_iff.mp hm
  obtain ⟨n, _, e⟩ := List.mem_map.mp hm2
  have e' : (n : Int) = c := e
  refine ⟨n, e'.symm, ?_⟩
  unfold Sq.settled Sq.cnt
  rw [h, Option.getD_some, ← e', Int.toNat_natCast]
theorem ok_sqSettled {f fM : Addr} {fd fdM : FuncData} (F : Fun K "settled" "Sequencer.settled" sSqSettled f fd) (T : Txt K mg Cr Ck Cs Cc) (GM : FnOk P w K mg base CX0 1 fM fdM ["many"] spMost) (bM : Binds K fdM ["many"] []) (mM : mg "most_of" = some (.ref fM)) (kM : PySem.W.keepIn K (.ref fM) = true) :
    FnOk P w K mg base CX0 2 f fd ["self"] (spSqSettled Cs) := by
  refine F.ok scSqSettled (fun vs H Q E h => ?_) (fun cdv A outer s H vs Q E hr h => ?_)
  · obtain ⟨a, s, rfl, _⟩ := h
    rfl
  · obtain ⟨a, s, rfl, S, hm, hm1, ht, kk⟩ := h
    obtain ⟨dx, hp⟩ := S.ob
    refine ⟨_, pss_cons (ps_set (i := 1) scSqSettled.nd rfl (Or.inl rfl) (pe_callB cr_sorted (by rfl) T.b.sorted (by decide +kernel) (pa_cons (pe_listVals rfl (pe_fld (pv 0) rfl) (by rfl) T.b.list (by decide +kernel)) pa_nil)))
      (pss_one (ps_ret (pe_callTy call_tuple_of (by rfl) T.b.tuple (by decide +kernel) (pa_cons (pe_slice sl_list (pe_fld (pv 0) rfl) po_none (po_some (pe_ix ix_list (pv 1)
        (pe_op op_sub (pe_fld (pv 0) rfl) (pe_call GM hr rfl mM kM bM .nil pass0 (pa_cons (pe_fld (pv 0) rfl) pa_nil))) (fun _ _ => rfl)))) pa_nil)))), ?_⟩
    refine ⟨_, rfl, a.p, Cs, dx, _, _, rfl, hp, T.clS, T.sTk, sf_tk, a.t, _, rfl, S.tk, fun q nq => ?_⟩
    have k1 : Kpt No H (upd H q (.lst ((tkD 0 s.tk).map (·.2)))) := Kpt.new nq
    refine ⟨q, s.tk.map fun (n : Nat) => (n : Int), rfl, sqL (by rw [upd_same, tkD_vals]), by rw [List.length_map]; omega, fun ns u pe so nu => ?_⟩
    have en := srt_is pe so
    subst en
    have k2 := k1.trans (Kpt.new (M := No) (o := .lst ((srt (s.tk.map fun (n : Nat) => (n : Int))).map V.int)) nu)
    have hu2 : upd (upd H q (.lst ((tkD 0 s.tk).map (·.2)))) u (.lst ((srt (s.tk.map fun (n : Nat) => (n : Int))).map V.int)) u = some (.lst ((srt (s.tk.map fun (n : Nat) => (n : Int))).map V.int)) := upd_same
    generalize upd (upd H q (.lst ((tkD 0 s.tk).map (·.2)))) u (.lst ((srt (s.tk.map fun (n : Nat) => (n : Int))).map V.int)) = H2 at *
    have hp2 := k2.same _ _ hp
    have hrow2 := k2.same _ _ S.row
    obtain ⟨c, hc⟩ : ∃ c, (srt (s.tk.map fun (n : Nat) => (n : Int)))[s.many - (s.many / 2 + 1)]? = some c := by
      have hl : s.many - (s.many / 2 + 1) < (srt (s.tk.map fun (n : Nat) => (n : Int))).length := by rw [srt_len, List.length_map]; omega
      exact ⟨_, List.getElem?_eq_getElem hl⟩
    obtain ⟨n, rfl, es⟩ := cnt_nat hc
    refine ⟨_, rfl, a.p, Cs, dx, _, _, rfl, hp2, T.clS, T.sRow, sf_row, _, rfl, _, rfl, a.p, Cs, dx, _, _, rfl, hp2, T.clS, T.sMan, sf_many, _, rfl, a.p, Cs, dx, _, _, rfl, hp2, T.clS, T.sMan, sf_many, s.many, rfl, _, _, rfl, rfl,
      u, _, _, .int n, rfl, rfl, sqL hu2, at_of (j := s.many - (s.many / 2 + 1)) (by omega) (by rw [List.getElem?_map, hc]; rfl), _, rfl, a.l, _, rfl, sqL hrow2, fun q2 nq2 => ?_⟩
    have k3 := k2.trans (Kpt.new (M := No) (o := .lst (cutV (s.row.map V.int) none (some (n : Int)))) nq2)
    refine ⟨q2, _, rfl, .inl ⟨sqL upd_same, fun t nt => ?_⟩⟩
    refine kk t _ ?_ (k3.trans (Kpt.new nt))
    rw [upd_same, cut_pre, ← List.map_take, es]
/-! ### to_send -/
abbrev nSend : List Str := ["self", "number", "found", "place"]
theorem scSqSend : FnScope nSend ["self"] (defScope sSqSend) := ⟨rfl, rfl, rfl, by decide +kernel, rfl, by decide +kernel, by decide +kernel⟩
theorem rows_has {H : Hp} {kvs : List (Key × V)} {rows : List (Nat × List Pr)} (h : Paired (RwV H) kvs rows) (n : Nat) : (valV kvs (.inl (n : Int))).isSome = hasR rows n := by
  rw [← rows_any n h, valV_any]
theorem ok_sqSend {f : Addr} {fd : FuncData} (F : Fun K "to_send" "Sequencer.to_send" sSqSend f fd) (T : Txt K mg Cr Ck Cs Cc) : FnOk P w K mg base CX0 1 f fd ["self"] (spSqSend Cs) := by
  refine F.ok scSqSend (fun vs H Q E h => ?_) (fun cdv A outer s H vs Q E hr h => ?_)
  · obtain ⟨a, s, rfl, _⟩ := h
    rfl
  · obtain ⟨a, s, rfl, S, hm, ht, kk⟩ := h
    have hu := hu_of hr
    obtain ⟨tA, hA⟩ := T.ask
    obtain ⟨tL, hL⟩ := T.lead
    obtain ⟨dx, hp⟩ := S.ob
    obtain ⟨kvs, hd, hq⟩ := S.rows
    refine ⟨_, pss_cons (ps_if (pt_cmpR op_eq (pe_fld (pv 0) rfl) (pe_glob (v := .str "asking") rfl hA ⟨_, rfl⟩) (nomark _))
        (pss_one (ps_ret (pe_callTy call_tuple_of (by rfl) T.b.tuple (by decide +kernel) (pa_cons
          (pe_lc (own := [("number", 1)]) (g := gName 1) (tt := tB (tDNotIn (tVar 1) (tFld K (tVar 0) "rows"))) (te := tTup (tCons (tC (.str "ask")) (tCons (tFld K (tVar 0) "epoch") (tCons (tVar 1) tNil)))) rfl scSqSend.nd
            (pi_range1 rfl T.b.range (pa_cons (pe_fld (pv 0) rfl) pa_nil)) (blkOk_by (N := nSend) (sc := defScope sSqSend) (by decide +kernel)) (fun _ _ _ _ _ => pg_name (i := 1) scSqSend.nd rfl (Or.inl rfl))
            (fun _ _ _ _ _ => pts_one (pt_cmp (pc_dnotin hu (pv 1) (pe_fld (pv 0) rfl)))) (fun _ _ _ _ _ => pe_tup (pa_cons pe_str (pa_cons (pe_fld (pv 0) rfl) (pa_cons (pv 1) pa_nil))))) pa_nil)))) pss_nil)
      (pss_cons (ps_set (i := 2) scSqSend.nd rfl (Or.inl rfl) (pe_lst pa_nil))
      (pss_cons (ps_if (pt_cmpR op_eq (pe_fld (pv 0) rfl) (pe_glob (v := .str "leading") rfl hL ⟨_, rfl⟩) (nomark _))
        (pss_one (ps_for PassesOwn.never rfl (pi_range1 rfl T.b.range (pa_cons (pe_fld (pv 0) rfl) pa_nil)) (pg_name (i := 1) scSqSend.nd rfl (Or.inl rfl))
          (pss_cons (ps_set (i := 3) scSqSend.nd rfl (Or.inl rfl) (pe_dget hu (pe_fld (pv 0) rfl) (pv 1) (fun _ _ => rfl)))
          (pss_one (ps_if (pt_cmpR op_lt (pv 3) (pe_callB call_len_seq (by rfl) T.b.len PySem.boot_len (pa_cons (pe_fld (pv 0) rfl) pa_nil)) (nomark _))
            (pss_one (ps_expr (pe_bm PySem.F.plainAttrs_list PySem.F.slot_list_append PySem.F.type_list_append mt_append (pv 2) (pa_cons (pe_tup (pa_cons pe_str (pa_cons (pe_fld (pv 0) rfl) (pa_cons (pv 1) (pa_cons (pv 3) (pa_cons (pe_ix ix_list (pe_fld (pv 0) rfl) (pv 3) (fun _ _ => rfl)) pa_nil)))))) pa_nil))))
            pss_nil))))) pss_nil)
      (pss_one (ps_ret (pe_callTy call_tuple_of (by rfl) T.b.tuple (by decide +kernel) (pa_cons (pv 2) pa_nil)))))), ?_⟩
    have en : ((s.many : Nat) : Int).toNat = s.many := Int.toNat_natCast _
    -- the end: tuple(found)
    have fin : ∀ (H1 : Hp) (fl : Addr) (vs : List V) (v1 v3 : Option V), H1 fl = some (.lst vs) → Paired (LtV H1) vs s.toSend → Kpt No H H1 →
        tRet (tCB (fun xs H Q => ∃ p ys, xs = [.ref p] ∧ ((SqL K H p ys ∧ ∀ l, H l = none → Q (.ref l) (upd H l (.tup ys))) ∨ (SqT K H p ys ∧ Q (.ref p) H))) (tCons (tVar 2) tNil)) { nx := fun _ H' => Q .non H', rt := Q } [some (.ref a.p), v1, some (.ref fl), v3] H1 := by
      intro H1 fl vs v1 v3 hfl hv k
      refine ⟨_, rfl, fl, vs, rfl, .inl ⟨sqL hfl, fun t nt => ?_⟩⟩
      have k2 : Kpt No H1 (upd H1 t (.tup vs)) := Kpt.new nt
      exact kk _ _ ⟨t, vs, rfl, upd_same, Pd.mono (fun _ _ z => LtV.mono k2.tup z) hv⟩ (k.trans k2)
    refine ⟨_, rfl, a.p, Cs, dx, _, _, rfl, hp, T.clS, T.sSt, sf_st, rfl, _, rfl, ?_⟩
    cases hst : s.st with
    | asking =>
      rw [show decide (V.str Sd.asking.str = V.str "asking") = true from (by decide +kernel : decide (V.str "asking" = V.str "asking") = true)]
      have esend : s.toSend = (List.range s.many).filterMap (askTo s.rows s.ep) := by unfold Sq.toSend; rw [hst]
      refine iteT ⟨_, rfl, a.p, Cs, dx, _, _, rfl, hp, T.clS, T.sMan, sf_many, _, rfl, by omega, by omega, ?_⟩
      rw [en]
      refine fun D nD => lc_range (lo := 0) (n := s.many) (fun i H1 => (∃ acc, H1 D = some (.lst acc) ∧ Paired (LtV H1) acc ((List.range i).filterMap (askTo s.rows s.ep)) ∧ acc.length ≤ i) ∧ Kpt No H H1)
        ⟨⟨[], upd_same, .nil, Nat.le_refl _⟩, Kpt.new nD⟩ (fun i H1 hi ⟨⟨acc, hD, hacc, hl⟩, k⟩ => ?_) (fun H1 ⟨⟨acc, hD, hacc, hl⟩, k⟩ => ?_)
      · rw [Int.zero_add]
        have hp1 := k.same _ _ hp
        have hd1 := k.same _ _ hd
        refine ⟨rfl, _, rfl, _, rfl, a.p, Cs, dx, _, _, rfl, hp1, T.clS, T.sRs, sf_rows, a.d, _, rfl, DGet.k (k := Sum.inl (i : Int)) hd1, _, rfl, ?_⟩
        rw [rows_has hq i]
        cases hh : hasR s.rows i with
        | true =>
          refine iteF ⟨⟨acc, hD, ?_, Nat.le_succ_of_le hl⟩, k⟩
          have ea : askTo s.rows s.ep i = none := by unfold askTo; rw [if_pos hh]
          rw [range_fm, ea, List.append_nil]
          exact hacc
        | false =>
          refine iteT ⟨_, rfl, a.p, Cs, dx, _, _, rfl, hp1, T.clS, T.sEp, sf_ep, _, rfl, (by show 3 ≤ sizeLine; exact small (by decide)), fun t nt => ?_⟩
          have k1 : Kpt No H1 (upd H1 t (.tup [.str "ask", .int s.ep, .int i])) := Kpt.new nt
          have tD : D ≠ t := ne_of_none hD nt
          have k2 : TupS (upd H1 t (.tup [.str "ask", .int s.ep, .int i])) (upd (upd H1 t (.tup [.str "ask", .int s.ep, .int i])) D (.lst (acc ++ [.ref t]))) := (Kpt.wr (M := fun b => b = D) (u := .lst acc) rfl (by rw [upd_ne tD]; exact hD) lst_tup).tup
          refine ⟨acc, by rw [upd_ne tD]; exact hD, smallT (by omega), ⟨_, upd_same, ?_, by rw [List.length_append]; exact Nat.add_le_add_right hl 1⟩, (k.trans k1).up nD⟩
          have ea : askTo s.rows s.ep i = some (.ask s.ep i) := by unfold askTo; rw [if_neg (by rw [hh]; exact Bool.false_ne_true)]
          rw [range_fm, ea]
          exact Pd.app (Pd.mono (fun _ _ z => (LtV.mono k1.tup z).mono k2) hacc) (.cons ⟨t, rfl, k2 _ _ upd_same⟩ .nil)
      · rw [← esend] at hacc
        refine ⟨D, acc, rfl, .inl ⟨sqL hD, fun t nt => ?_⟩⟩
        have k2 : Kpt No H1 (upd H1 t (.tup acc)) := Kpt.new nt
        exact kk _ _ ⟨t, acc, rfl, upd_same, Pd.mono (fun _ _ z => LtV.mono k2.tup z) hacc⟩ (k.trans k2)
    | stopped =>
      rw [show decide (V.str Sd.stopped.str = V.str "asking") = false from (by decide +kernel : decide (V.str "stopped" = V.str "asking") = false)]
      have esend : s.toSend = [] := by unfold Sq.toSend; rw [hst]
      refine iteF ⟨Nat.zero_le _, fun fl nfl => ?_⟩
      have k1 : Kpt No H (upd H fl (.lst [])) := Kpt.new nfl
      refine ⟨_, rfl, a.p, Cs, dx, _, _, rfl, k1.same _ _ hp, T.clS, T.sSt, sf_st, rfl, _, rfl, ?_⟩
      rw [hst, show decide (V.str Sd.stopped.str = V.str "leading") = false from (by decide +kernel : decide (V.str "stopped" = V.str "leading") = false)]
      exact iteF (fin _ fl [] _ _ upd_same (by rw [esend]; exact .nil) k1)
    | leading =>
      rw [show decide (V.str Sd.leading.str = V.str "asking") = false from (by decide +kernel : decide (V.str "leading" = V.str "asking") = false)]
      have esend : s.toSend = (List.range s.many).filterMap (writeTo s.row s.tk s.ep) := by unfold Sq.toSend; rw [hst]
      refine iteF ⟨Nat.zero_le _, fun fl nfl => ?_⟩
      have k1 : Kpt No H (upd H fl (.lst [])) := Kpt.new nfl
      refine ⟨_, rfl, a.p, Cs, dx, _, _, rfl, k1.same _ _ hp, T.clS, T.sSt, sf_st, rfl, _, rfl, ?_⟩
      rw [hst, show decide (V.str Sd.leading.str = V.str "leading") = true from (by decide +kernel : decide (V.str "leading" = V.str "leading") = true)]
      refine iteT ⟨_, rfl, a.p, Cs, dx, _, _, rfl, k1.same _ _ hp, T.clS, T.sMan, sf_many, _, rfl, by omega, by omega, ?_⟩
      rw [en]
      refine for_range (lo := 0) (n := s.many) (fun i σ H1 => ∃ v1 v3 : Option V, σ = [some (.ref a.p), v1, some (.ref fl), v3] ∧ (∃ acc, H1 fl = some (.lst acc) ∧ Paired (LtV H1) acc ((List.range i).filterMap (writeTo s.row s.tk s.ep)) ∧ acc.length ≤ i) ∧ Kpt No H H1)
        ⟨none, none, rfl, ⟨[], upd_same, .nil, Nat.le_refl _⟩, k1⟩ ?_ ?_
      · rintro i σ H1 hi ⟨v1, v3, rfl, ⟨acc, hfl, hacc, hl⟩, k⟩
        rw [Int.zero_add]
        have hp1 := k.same _ _ hp
        have ht1 := k.same _ _ S.tk
        have hr1 := k.same _ _ S.row
        obtain ⟨pl, hpl⟩ : ∃ pl, s.tk[i]? = some pl := ⟨s.tk[i]'(by omega), List.getElem?_eq_getElem (by omega)⟩
        have hg := DGet.k (k := Sum.inl (i : Int)) ht1
        rw [tkD_key, hpl] at hg
        refine ⟨_, rfl, a.p, Cs, dx, _, _, rfl, hp1, T.clS, T.sTk, sf_tk, _, rfl, a.t, _, rfl, hg, ?_⟩
        refine ⟨_, rfl, _, rfl, a.p, Cs, dx, _, _, rfl, hp1, T.clS, T.sRow, sf_row, a.l, _, rfl, .inl (sqL hr1), _, _, rfl, rfl, _, rfl, ?_⟩
        rw [List.length_map]
        by_cases c : pl < s.row.length
        · rw [decide_eq_true (show (pl : Int) < (s.row.length : Int) by omega)]
          have hx : s.row[pl]? = some s.row[pl] := List.getElem?_eq_getElem c
          refine iteT ⟨_, rfl, .inl ⟨rfl, _, sqL hfl⟩, _, rfl, a.p, Cs, dx, _, _, rfl, hp1, T.clS, T.sEp, sf_ep, _, rfl, _, rfl, _, rfl, a.p, Cs, dx, _, _, rfl, hp1, T.clS, T.sRow, sf_row, _, rfl, a.l, _, _, .int s.row[pl], rfl, rfl, sqL hr1, at_of (j := pl) rfl (by rw [List.getElem?_map, hx]; rfl),
            (by show 5 ≤ sizeLine; exact small (by decide)), fun t nt => ?_⟩
          have k2 : Kpt No H1 (upd H1 t (.tup [.str "write", .int s.ep, .int i, .int pl, .int s.row[pl]])) := Kpt.new nt
          have tD : fl ≠ t := ne_of_none hfl nt
          have k3 : TupS (upd H1 t (.tup [.str "write", .int s.ep, .int i, .int pl, .int s.row[pl]])) (upd (upd H1 t (.tup [.str "write", .int s.ep, .int i, .int pl, .int s.row[pl]])) fl (.lst (acc ++ [.ref t]))) := (Kpt.wr (M := fun b => b = fl) (u := .lst acc) rfl (by rw [upd_ne tD]; exact hfl) lst_tup).tup
          refine ⟨fl, acc, _, rfl, rfl, by rw [upd_ne tD]; exact hfl, smallT (by omega), _, _, rfl, ⟨_, upd_same, ?_, by rw [List.length_append]; exact Nat.add_le_add_right hl 1⟩, (k.trans k2).up nfl⟩
          have ew : writeTo s.row s.tk s.ep i = some (.write s.ep i pl s.row[pl]) := by unfold writeTo; rw [hpl]; dsimp only; rw [hx]
          rw [range_fm, ew]
          exact Pd.app (Pd.mono (fun _ _ z => (LtV.mono k2.tup z).mono k3) hacc) (.cons ⟨t, rfl, k3 _ _ upd_same⟩ .nil)
        · rw [decide_eq_false (show ¬ (pl : Int) < (s.row.length : Int) by omega)]
          refine iteF ⟨_, _, rfl, ⟨acc, hfl, ?_, Nat.le_succ_of_le hl⟩, k⟩
          have ew : writeTo s.row s.tk s.ep i = none := by unfold writeTo; rw [hpl]; dsimp only; rw [List.getElem?_eq_none (by omega)]
          rw [range_fm, ew, List.append_nil]
          exact hacc
      · rintro σ H1 ⟨v1, v3, rfl, ⟨acc, hfl, hacc, hl⟩, k⟩
        rw [← esend] at hacc
        exact fin H1 fl acc v1 v3 hfl hacc k
end
end K49

/-! K49W7: a sequencer hears an answer. -/
namespace K49
open PySem PySem.Spec PyProof.Rows L2
section
variable {P : Program} {w : World} {K : PySem.W.Frag} {mg : Str → Option Value} {base : Heap} {Cr Ck Cs Cc : Addr}
abbrev nHear : List Str := ["self", "letter", "number"]
theorem scSqHear : FnScope nHear ["self", "letter"] (defScope sSqHear) := ⟨rfl, rfl, rfl, by decide +kernel, rfl, by decide +kernel, by decide +kernel⟩
theorem hear_off {s : Sq} {l : Lt} (h : l.ep ≠ s.ep ∨ s.st = .stopped) : s.hear l = s := by unfold Sq.hear; rw [if_pos h]
theorem hear_refused {s : Sq} {e : Int} {n : Nat} {k : Int} (h : ¬ (e ≠ s.ep ∨ s.st = .stopped)) : s.hear (.refused e n k) = { s with st := .stopped } := by unfold Sq.hear; rw [if_neg (show ¬ (Lt.ep (.refused e n k) ≠ s.ep ∨ s.st = .stopped) from h)]
theorem hear_told {s : Sq} {e : Int} {n : Nat} {row : List Pr} (h : ¬ (e ≠ s.ep ∨ s.st = .stopped)) : s.hear (.told e n row) =
    if s.st = .asking then (if s.many / 2 + 1 ≤ (putR s.rows n row).length then Sq.lead { s with rows := putR s.rows n row } else { s with rows := putR s.rows n row }) else s := by
  unfold Sq.hear; rw [if_neg (show ¬ (Lt.ep (.told e n row) ≠ s.ep ∨ s.st = .stopped) from h)]
theorem hear_taken {s : Sq} {e : Int} {n p : Nat} (h : ¬ (e ≠ s.ep ∨ s.st = .stopped)) : s.hear (.taken e n p) =
    if s.st = .leading ∧ s.tk[n]? = some p then { s with tk := s.tk.set n (p + 1) } else s := by
  unfold Sq.hear; rw [if_neg (show ¬ (Lt.ep (.taken e n p) ≠ s.ep ∨ s.st = .stopped) from h)]
theorem SqAt.putSt {C : Addr} {H : Hp} {a : SA} {s : Sq} (S : SqAt C H a s) {dx : Addr} (hp : H a.p = some (.ins C dx (sf s.ep s.many s.st.str a.d a.l a.t))) (st : Sd) :
    SqAt C (upd H a.p (.ins C dx (putF "stand" (.str st.str) (sf s.ep s.many s.st.str a.d a.l a.t)))) a { s with st := st } ∧ Kpt a.mem H (upd H a.p (.ins C dx (putF "stand" (.str st.str) (sf s.ep s.many s.st.str a.d a.l a.t)))) := by
  have k1 : Kpt a.mem H (upd H a.p (.ins C dx (putF "stand" (.str st.str) (sf s.ep s.many s.st.str a.d a.l a.t)))) := Kpt.wr (.inl rfl) hp ins_tup
  obtain ⟨kvs, hd, hq⟩ := S.rows
  have n1 : a.d ≠ a.p := ne_of hd hp (by intro z; cases z)
  have n2 : a.l ≠ a.p := ne_of S.row hp (by intro z; cases z)
  have n3 : a.t ≠ a.p := ne_of S.tk hp (by intro z; cases z)
  exact ⟨⟨⟨dx, upd_ins sf_pst⟩, ⟨kvs, by rw [upd_ne n1]; exact hd, Pd.mono (fun _ _ z => z.mono k1.tup) hq⟩, by rw [upd_ne n2]; exact S.row, by rw [upd_ne n3]; exact S.tk, S.dt⟩, k1⟩
theorem ok_sqHear {f fN fM : Addr} {fd fdN fdM : FuncData} (F : Fun K "hear" "Sequencer.hear" sSqHear f fd) (T : Txt K mg Cr Ck Cs Cc)
    (GN : FnOk P w K mg base CX0 1 fN fdN ["rows"] spNewest) (bN : Binds K fdN ["rows"] []) (mN : mg "newest_row" = some (.ref fN)) (kN : PySem.W.keepIn K (.ref fN) = true)
    (GM : FnOk P w K mg base CX0 1 fM fdM ["many"] spMost) (bM : Binds K fdM ["many"] []) (mM : mg "most_of" = some (.ref fM)) (kM : PySem.W.keepIn K (.ref fM) = true) :
    FnOk P w K mg base CX0 2 f fd ["self", "letter"] (spSqHear Cs) := by
  refine F.ok scSqHear (fun vs H Q E h => ?_) (fun cdv A outer s H vs Q E hr h => ?_)
  · obtain ⟨a, s, lv, l, m, c, rfl, _⟩ := h
    rfl
  · obtain ⟨a, s, lv, l, m, c, rfl, S, hl, hdn, ok, hm, hlo, kk⟩ := h
    have hu := hu_of hr
    obtain ⟨tA, hA⟩ := T.ask
    obtain ⟨tL, hL⟩ := T.lead
    obtain ⟨tS, hS⟩ := T.stop
    obtain ⟨dx, hp⟩ := S.ob
    obtain ⟨kvs, hd, hq⟩ := S.rows
    refine ⟨_, pss_cons (ps_if (PW.pt (pw_or (pt_cmpR op_ne (pe_ix ix_tup (pv 1) pe_int (fun _ _ => rfl)) (pe_fld (pv 0) rfl) (nomark _)) (pw_or1 (pt_cmpR op_eq (pe_fld (pv 0) rfl) (pe_glob (v := .str "stopped") rfl hS ⟨_, rfl⟩) (nomark _))))) (pss_one ps_retN) pss_nil)
      (pss_one (ps_if (pt_cmpR op_eq (pe_ix ix_tup (pv 1) pe_int (fun _ _ => rfl)) pe_str (nomark _))
        (pss_one (ps_fld (pv 0) (pe_glob (v := .str "stopped") rfl hS ⟨_, rfl⟩) rfl))
        (pss_one (ps_if (PW.pt (pw_and (pt_cmpR op_eq (pe_ix ix_tup (pv 1) pe_int (fun _ _ => rfl)) pe_str (nomark _)) (pw_and1 (pt_cmpR op_eq (pe_fld (pv 0) rfl) (pe_glob (v := .str "asking") rfl hA ⟨_, rfl⟩) (nomark _)))))
          (pss_cons (ps_dput hu (pe_fld (pv 0) rfl) (pe_ix ix_tup (pv 1) pe_int (fun _ _ => rfl)) (pe_ix ix_tup (pv 1) pe_int (fun _ _ => rfl)) rfl)
            (pss_one (ps_if (pt_cmpR op_ge (pe_callB call_lenD (by rfl) T.b.len PySem.boot_len (pa_cons (pe_fld (pv 0) rfl) pa_nil)) (pe_call GM hr rfl mM kM bM .nil pass0 (pa_cons (pe_fld (pv 0) rfl) pa_nil)) (nomark _))
              (pss_cons (ps_fld (pv 0) (pe_call GN hr rfl mN kN bN .nil pass0 (pa_cons (pe_lc (own := [("number", 2)]) (g := gName 2) (tt := tYes) (te := tDGet (tFld K (tVar 0) "rows") (tVar 2)) rfl scSqHear.nd
                  (pi_list (pe_callB cr_sorted (by rfl) T.b.sorted (by decide +kernel) (pa_cons (pe_callTy (call_list_dK rfl) (by rfl) T.b.list (by decide +kernel) (pa_cons (pe_fld (pv 0) rfl) pa_nil)) pa_nil)))
                  (blkOk_by (N := nHear) (sc := defScope sSqHear) (by decide +kernel)) (fun _ _ _ _ _ => pg_name (i := 2) scSqHear.nd rfl (Or.inl rfl)) (fun _ _ _ _ _ => pts_nil) (fun _ _ _ _ _ => pe_dget hu (pe_fld (pv 0) rfl) (pv 2) (fun _ _ => rfl))) pa_nil)) rfl)
                (pss_one (ps_fld (pv 0) (pe_glob (v := .str "leading") rfl hL ⟨_, rfl⟩) rfl)))
              pss_nil)))
          (pss_one (ps_if (PW.pt (pw_and (pt_cmpR op_eq (pe_ix ix_tup (pv 1) pe_int (fun _ _ => rfl)) pe_str (nomark _)) (pw_and (pt_cmpR op_eq (pe_fld (pv 0) rfl) (pe_glob (v := .str "leading") rfl hL ⟨_, rfl⟩) (nomark _))
              (pw_and1 (pt_cmpR op_eq (pe_ix ix_tup (pv 1) pe_int (fun _ _ => rfl)) (pe_dget hu (pe_fld (pv 0) rfl) (pe_ix ix_tup (pv 1) pe_int (fun _ _ => rfl)) (fun _ _ => rfl)) (nomark _))))))
            (pss_one (ps_daug hu (pe_fld (pv 0) rfl) (pe_ix ix_tup (pv 1) pe_int (fun _ _ => rfl)) pe_int in_add (fun _ _ _ => rfl))) pss_nil)))))), ?_⟩
    obtain ⟨t, tr, rfl, ht⟩ := hl.three
    have kself : Q .non H ∨ s.hear l ≠ s := by
      by_cases e : s.hear l = s
      · exact .inl (kk a H rfl (by rw [e]; exact S) (fun b hb => .inl hb) .refl)
      · exact .inr e
    have ksame : s.hear l = s → Q .non H := fun e => kself.resolve_right fun z => z e
    refine ⟨_, rfl, t, _, _, _, rfl, rfl, sqT ht, at1, _, rfl, a.p, Cs, dx, _, _, rfl, hp, T.clS, T.sEp, sf_ep, rfl, _, rfl, ?_⟩
    by_cases c1 : l.ep = s.ep
    · rw [decide_eq_true (show V.int l.ep = V.int s.ep by rw [c1])]
      refine iteF ⟨_, rfl, a.p, Cs, dx, _, _, rfl, hp, T.clS, T.sSt, sf_st, rfl, _, rfl, ?_⟩
      by_cases c2 : s.st = .stopped
      · rw [c2, show decide (V.str Sd.stopped.str = V.str "stopped") = true from (by decide +kernel : decide (V.str "stopped" = V.str "stopped") = true)]
        exact iteT (ksame (hear_off (.inr c2)))
      · have e2 : decide (V.str s.st.str = V.str "stopped") = false := by
          cases hst : s.st with
          | asking => exact (by decide +kernel : decide (V.str "asking" = V.str "stopped") = false)
          | leading => exact (by decide +kernel : decide (V.str "leading" = V.str "stopped") = false)
          | stopped => exact absurd hst c2
        rw [e2]
        have hon : ¬ (l.ep ≠ s.ep ∨ s.st = .stopped) := fun z => z.elim (fun z => z c1) c2
        refine iteF ⟨_, rfl, t, _, _, _, rfl, rfl, sqT ht, at0, rfl, _, rfl, ?_⟩
        cases l with
        | ask e n => cases hdn
        | write e n p x => cases hdn
        | refused e n k =>
          rw [show decide (V.str (Lt.word (.refused e n k)) = V.str "refused") = true from (by decide +kernel : decide (V.str "refused" = V.str "refused") = true)]
          refine iteT ⟨_, rfl, a.p, Cs, dx, _, rfl, hp, T.clS, T.sSt, (by show 6 < 1000; decide), ?_⟩
          have sp := S.putSt hp .stopped
          rw [hear_refused (e := e) (n := n) (k := k) hon] at kk
          exact kk a _ rfl sp.1 (fun b hb => .inl hb) sp.2
        | told e n row =>
          rw [show decide (V.str (Lt.word (.told e n row)) = V.str "refused") = false from (by decide +kernel : decide (V.str "told" = V.str "refused") = false)]
          refine iteF ⟨_, rfl, t, _, _, _, rfl, rfl, sqT ht, at0, rfl, _, rfl, ?_⟩
          rw [show decide (V.str (Lt.word (.told e n row)) = V.str "told") = true from (by decide +kernel : decide (V.str "told" = V.str "told") = true)]
          refine iteT ⟨_, rfl, a.p, Cs, dx, _, _, rfl, hp, T.clS, T.sSt, sf_st, rfl, _, rfl, ?_⟩
          rw [hear_told (e := e) (n := n) (row := row) hon] at kk ksame
          cases hst : s.st with
          | stopped => exact absurd hst c2
          | leading =>
            rw [show decide (V.str Sd.leading.str = V.str "asking") = false from (by decide +kernel : decide (V.str "leading" = V.str "asking") = false)]
            refine iteF ⟨_, rfl, t, _, _, _, rfl, rfl, sqT ht, at0, rfl, _, rfl, ?_⟩
            rw [show decide (V.str (Lt.word (.told e n row)) = V.str "taken") = false from (by decide +kernel : decide (V.str "told" = V.str "taken") = false)]
            exact iteF (iteF (ksame (by rw [hst]; exact if_neg (by decide))))
          | asking =>
            rw [show decide (V.str Sd.asking.str = V.str "asking") = true from (by decide +kernel : decide (V.str "asking" = V.str "asking") = true)]
            rw [if_pos hst] at kk
            obtain ⟨t', rv, e', ht2, hrv⟩ := hl
            cases e'
            have nm : n < m := hlo.1
            have zrow : row.length ≤ rowTop := hlo.2 _ _ _ rfl
            have hklen : kvs.length = s.rows.length := hq.length
            have hfew := ok.few
            refine iteT ⟨_, rfl, t, _, _, _, rfl, rfl, sqT ht2, at3, _, rfl, a.p, Cs, dx, _, _, rfl, hp, T.clS, T.sRs, sf_rows, _, rfl, t, _, _, _, rfl, rfl, sqT ht2, at2, a.d, _, rfl, .inl ⟨kvs, .inl (n : Int), hd, rfl, smallT (by omega), rfl⟩, ?_⟩
            have k1 : Kpt a.mem H (upd H a.d (.dK (putK kvs (.inl (n : Int)) rv))) := Kpt.wr (.inr (.inl rfl)) hd dK_tup
            have n1 : a.p ≠ a.d := ne_of hp hd (by intro z; cases z)
            have n2 : a.l ≠ a.d := ne_of S.row hd (by intro z; cases z)
            have hp1 : upd H a.d (.dK (putK kvs (.inl (n : Int)) rv)) a.p = some (.ins Cs dx (sf s.ep s.many s.st.str a.d a.l a.t)) := by rw [upd_ne n1]; exact hp
            have hd1 : upd H a.d (.dK (putK kvs (.inl (n : Int)) rv)) a.d = some (.dK (putK kvs (.inl (n : Int)) rv)) := upd_same
            have hl1 : upd H a.d (.dK (putK kvs (.inl (n : Int)) rv)) a.l = some (.lst (s.row.map V.int)) := by rw [upd_ne n2]; exact S.row
            have ht1 : upd H a.d (.dK (putK kvs (.inl (n : Int)) rv)) a.t = some (.dK (tkD 0 s.tk)) := by rw [upd_ne S.dt.symm]; exact S.tk
            have hq1 := Pd.mono (fun _ _ z => RwV.mono k1.tup z) (rows_put hq n hrv)
            generalize upd H a.d (.dK (putK kvs (.inl (n : Int)) rv)) = H1 at *
            have hlen := hq1.length
            have hpl := putR_len s.rows n row
            refine ⟨_, rfl, a.p, Cs, dx, _, _, rfl, hp1, T.clS, T.sRs, sf_rows, a.d, _, rfl, hd1, _, rfl, a.p, Cs, dx, _, _, rfl, hp1, T.clS, T.sMan, sf_many, s.many, rfl, _, _, rfl, rfl, _, rfl, ?_⟩
            rw [hlen]
            by_cases cm : s.many / 2 + 1 ≤ (putR s.rows n row).length
            · rw [decide_eq_true (show ((s.many / 2 + 1 : Nat) : Int) ≤ ((putR s.rows n row).length : Int) by omega)]
              rw [if_pos cm] at kk
              refine iteT ⟨_, rfl, a.p, Cs, dx, _, _, rfl, hp1, T.clS, T.sRs, sf_rows, a.d, _, rfl, hd1, fun q nq => ?_⟩
              have k2 : Kpt No H1 (upd H1 q (.lst ((putK kvs (.inl (n : Int)) rv).map fun kv => kV kv.1))) := Kpt.new nq
              refine ⟨q, (putR s.rows n row).map fun q => (q.1 : Int), rfl, sqL (by rw [upd_same, rows_keys hq1]), by rw [List.length_map]; omega, fun ns u pe so nu => ?_⟩
              have en := srt_is pe so
              subst en
              have k3 := k2.up (o := .lst ((srt ((putR s.rows n row).map fun q => (q.1 : Int))).map V.int)) (k2.same.free nu)
              have hu3 : upd (upd H1 q (.lst ((putK kvs (.inl (n : Int)) rv).map fun kv => kV kv.1))) u (.lst ((srt ((putR s.rows n row).map fun q => (q.1 : Int))).map V.int)) u = some (.lst ((srt ((putR s.rows n row).map fun q => (q.1 : Int))).map V.int)) := upd_same
              generalize upd (upd H1 q (.lst ((putK kvs (.inl (n : Int)) rv).map fun kv => kV kv.1))) u (.lst ((srt ((putR s.rows n row).map fun q => (q.1 : Int))).map V.int)) = H3 at *
              clear k2 nq nu
              have hsl : (srt ((putR s.rows n row).map fun q => (q.1 : Int))).length = (putR s.rows n row).length := by rw [srt_len, List.length_map]
              refine ⟨u, rfl, ⟨_, sqL hu3⟩, fun D nD => lc_list (K := K) (a := u) (xs := (srt ((putR s.rows n row).map fun q => (q.1 : Int))).map V.int)
                (fun j H4 => (∃ acc, H4 D = some (.lst acc) ∧ Paired (RowV H4) acc (((srt ((putR s.rows n row).map fun q => (q.1 : Int))).take j).map (rowOf (putR s.rows n row))) ∧ acc.length ≤ j) ∧ Kpt No H3 H4)
                ⟨⟨[], upd_same, .nil, Nat.le_refl _⟩, Kpt.new nD⟩ (fun j H4 _ ⟨_, k4⟩ => sqL (k4.same _ _ hu3)) (fun j x H4 hx ⟨⟨acc, hD, hacc, hal⟩, k4⟩ => ?_) (fun H4 ⟨⟨acc, hD, hacc, hal⟩, k4⟩ => ?_)⟩
              · rw [List.getElem?_map] at hx
                obtain ⟨i, hi, rfl⟩ : ∃ i, (srt ((putR s.rows n row).map fun q => (q.1 : Int)))[j]? = some i ∧ x = V.int i := by
                  cases e : (srt ((putR s.rows n row).map fun q => (q.1 : Int)))[j]? with
                  | none => rw [e] at hx; cases hx
                  | some i => rw [e] at hx; exact ⟨i, rfl, (Option.some.inj hx).symm⟩
                have hjl := (List.getElem?_eq_some_iff.mp hi).1
                have hmem : i ∈ (putR s.rows n row).map fun q => (q.1 : Int) := (srt_perm _).mem_iff.mp (List.mem_of_getElem? hi)
                obtain ⟨v, hv, hvr⟩ := rows_val hq1 hmem
                have k34 := k3.trans k4
                have hp4 := k34.same _ _ hp1
                have hd4 := k34.same _ _ hd1
                have hg := DGet.k (k := Sum.inl i) hd4
                rw [hv] at hg
                have hvr4 := hvr.mono k34.tup
                have ku : TupS H4 (upd H4 D (.lst (acc ++ [v]))) := (Kpt.wr (M := fun b => b = D) rfl hD lst_tup).tup
                refine ⟨rfl, yes ⟨_, rfl, a.p, Cs, dx, _, _, rfl, hp4, T.clS, T.sRs, sf_rows, _, rfl, a.d, _, rfl, hg, acc, hD, smallT (by omega), ⟨_, upd_same, ?_, by rw [List.length_append]; exact Nat.add_le_add_right hal 1⟩, k4.up nD⟩⟩
                rw [take_snoc hi, List.map_append]
                exact Pd.app (Pd.mono (fun _ _ z => RowV.mono ku z) hacc) (.cons (hvr4.mono ku) .nil)
              rw [List.length_map, List.take_length] at hacc
              have k34 := k3.trans k4
              have r1 : ∀ q ∈ putR s.rows n row, q.1 < m ∧ q.2.length ≤ rowTop := fun q hq => by
                rcases putR_mem hq with hq | hq
                · exact ok.rows q hq
                · rw [hq]; exact ⟨nm, zrow⟩
              refine ⟨D, acc, _, rfl, hD, hacc, by rw [List.length_map, hsl]; omega, fun r hr => ?_, fun l' H5 hl5 nl5 k5 => ?_⟩
              · obtain ⟨i, _, e⟩ := List.mem_map.mp hr
                rw [← e]
                exact Nat.le_trans (rowOf_len r1 i) (by decide)
              have k35 := k34.trans k5
              have hp5 := k35.same _ _ hp1
              have nl1 : H1 l' = none := k34.same.free nl5
              refine ⟨_, rfl, a.p, Cs, dx, _, rfl, hp5, T.clS, T.sRow, (by show 6 < 1000; decide), ?_⟩
              have k6 : Kpt a.mem H5 (upd H5 a.p (.ins Cs dx (putF "row" (.ref l') (sf s.ep s.many s.st.str a.d a.l a.t)))) := Kpt.wr (.inl rfl) hp5 ins_tup
              have hp6 : upd H5 a.p (.ins Cs dx (putF "row" (.ref l') (sf s.ep s.many s.st.str a.d a.l a.t))) a.p = some (.ins Cs dx (sf s.ep s.many s.st.str a.d l' a.t)) := upd_ins sf_prow
              have q1 : a.d ≠ a.p := n1.symm
              have q2 : l' ≠ a.p := (ne_of_none hp1 nl1).symm
              have q3 : a.t ≠ a.p := ne_of ht1 hp1 (by intro z; cases z)
              have k16 := (k1.trans (k35.mono (N := a.mem) fun _ z => z.elim)).trans k6
              have S6 : SqAt Cs (upd H5 a.p (.ins Cs dx (putF "row" (.ref l') (sf s.ep s.many s.st.str a.d a.l a.t)))) ⟨a.p, a.d, l', a.t⟩ { s with rows := putR s.rows n row, row := newest ((srt ((putR s.rows n row).map fun q => (q.1 : Int))).map (rowOf (putR s.rows n row))) } :=
                ⟨⟨dx, hp6⟩, ⟨_, by show upd H5 a.p _ a.d = _; rw [upd_ne q1]; exact k35.same _ _ hd1, Pd.mono (fun _ _ z => (RwV.mono k35.tup z).mono k6.tup) hq1⟩, by show upd H5 a.p _ l' = _; rw [upd_ne q2]; exact hl5, by show upd H5 a.p _ a.t = _; rw [upd_ne q3]; exact k35.same _ _ ht1, S.dt⟩
              generalize upd H5 a.p (.ins Cs dx (putF "row" (.ref l') (sf s.ep s.many s.st.str a.d a.l a.t))) = H6 at *
              refine ⟨_, rfl, a.p, Cs, dx, _, rfl, hp6, T.clS, T.sSt, (by show 6 < 1000; decide), ?_⟩
              have sp := S6.putSt (dx := dx) hp6 .leading
              have mm : ∀ b, SA.mem ⟨a.p, a.d, l', a.t⟩ b → a.mem b ∨ H b = none := fun b hb => by
                rcases hb with rfl | rfl | rfl | rfl
                · exact .inl (.inl rfl)
                · exact .inl (.inr (.inl rfl))
                · exact k1.free nl1
                · exact .inl (.inr (.inr (.inr rfl)))
              exact kk ⟨a.p, a.d, l', a.t⟩ _ rfl sp.1 mm (k16.then sp.2 mm)
            · rw [decide_eq_false (show ¬ ((s.many / 2 + 1 : Nat) : Int) ≤ ((putR s.rows n row).length : Int) by omega)]
              rw [if_neg cm] at kk
              exact iteF (kk a H1 rfl ⟨⟨dx, hp1⟩, ⟨_, hd1, hq1⟩, hl1, ht1, S.dt⟩ (fun b hb => .inl hb) k1)
        | taken e n q =>
          rw [show decide (V.str (Lt.word (.taken e n q)) = V.str "refused") = false from (by decide +kernel : decide (V.str "taken" = V.str "refused") = false)]
          refine iteF ⟨_, rfl, t, _, _, _, rfl, rfl, sqT ht, at0, rfl, _, rfl, ?_⟩
          rw [show decide (V.str (Lt.word (.taken e n q)) = V.str "told") = false from (by decide +kernel : decide (V.str "taken" = V.str "told") = false)]
          refine iteF (iteF ⟨_, rfl, t, _, _, _, rfl, rfl, sqT ht, at0, rfl, _, rfl, ?_⟩)
          rw [show decide (V.str (Lt.word (.taken e n q)) = V.str "taken") = true from (by decide +kernel : decide (V.str "taken" = V.str "taken") = true)]
          refine iteT ⟨_, rfl, a.p, Cs, dx, _, _, rfl, hp, T.clS, T.sSt, sf_st, rfl, _, rfl, ?_⟩
          rw [hear_taken (e := e) (n := n) (p := q) hon] at kk ksame
          cases hst : s.st with
          | stopped => exact absurd hst c2
          | asking =>
            rw [show decide (V.str Sd.asking.str = V.str "leading") = false from (by decide +kernel : decide (V.str "asking" = V.str "leading") = false)]
            exact iteF (iteF (ksame (if_neg fun z => by rw [hst] at z; cases z.1)))
          | leading =>
            rw [show decide (V.str Sd.leading.str = V.str "leading") = true from (by decide +kernel : decide (V.str "leading" = V.str "leading") = true)]
            obtain ⟨t', e', ht2⟩ := hl
            cases e'
            have nm : n < s.tk.length := by rw [ok.tk]; exact hlo.1
            obtain ⟨pl, hpl⟩ : ∃ pl, s.tk[n]? = some pl := ⟨s.tk[n], List.getElem?_eq_getElem nm⟩
            have hg := DGet.k (k := Sum.inl (n : Int)) S.tk
            rw [tkD_key, hpl] at hg
            refine iteT ⟨_, rfl, t, _, _, _, rfl, rfl, sqT ht2, at3, _, rfl, a.p, Cs, dx, _, _, rfl, hp, T.clS, T.sTk, sf_tk, _, rfl, t, _, _, _, rfl, rfl, sqT ht2, at2, a.t, _, rfl, hg, rfl, _, rfl, ?_⟩
            by_cases cq : pl = q
            · subst cq
              rw [decide_eq_true rfl]
              rw [if_pos ⟨hst, hpl⟩] at kk
              refine iteT ⟨_, rfl, a.p, Cs, dx, _, _, rfl, hp, T.clS, T.sTk, sf_tk, _, rfl, t, _, _, _, rfl, rfl, sqT ht2, at2, a.t, _, rfl, hg, _, _, rfl, rfl, _, .inl ⟨_, .inl (n : Int), S.tk, rfl, smallT (by rw [tkD_len, ok.tk]; omega), rfl⟩, ?_⟩
              rw [show V.int ((pl : Int) + 1) = V.int ((pl + 1 : Nat) : Int) by rw [Int.natCast_add]; rfl, tkD_put _ _ _ nm]
              have k1 : Kpt a.mem H (upd H a.t (.dK (tkD 0 (s.tk.set n (pl + 1))))) := Kpt.wr (.inr (.inr (.inr rfl))) S.tk dK_tup
              have n1 : a.p ≠ a.t := ne_of hp S.tk (by intro z; cases z)
              have n2 : a.l ≠ a.t := ne_of S.row S.tk (by intro z; cases z)
              exact kk a _ rfl ⟨⟨dx, by rw [upd_ne n1]; exact hp⟩, ⟨kvs, by rw [upd_ne S.dt]; exact hd, Pd.mono (fun _ _ z => z.mono k1.tup) hq⟩, by rw [upd_ne n2]; exact S.row, upd_same, S.dt⟩ (fun b hb => .inl hb) k1
            · rw [decide_eq_false (show ¬ V.int (q : Int) = V.int (pl : Int) from fun z => cq (by have z' := V.int.inj z; omega))]
              exact iteF (ksame (if_neg fun z => cq (Option.some.inj (hpl.symm.trans z.2))))
    · rw [decide_eq_false (show ¬ V.int l.ep = V.int s.ep from fun z => c1 (V.int.inj z))]
      exact iteT (iteT (ksame (hear_off (.inl c1))))
end
end K49

/-! K49S: a side: the list of keepers, the list of sequencers; steps of one of them; all sequencers hear a letter. -/
namespace K49
open PySem PySem.Spec PyProof.Rows L2
/-- where a side stands: its two lists, its keepers, its sequencers -/
structure Sg where
  lk : Addr
  ls : Addr
  kas : List Addr
  sas : List SA
def Sg.memS (g : Sg) (b : Addr) : Prop := ∃ a ∈ g.sas, a.mem b
def Sg.mem (g : Sg) (b : Addr) : Prop := b = g.lk ∨ b = g.ls ∨ b ∈ g.kas ∨ g.memS b
structure SdAt (Ck Cs : Addr) (H : Hp) (g : Sg) (p : Sde) : Prop where
  lk : H g.lk = some (.lst (g.kas.map V.ref))
  ls : H g.ls = some (.lst (g.sas.map fun a => V.ref a.p))
  kp : Paired (KpAt Ck H) g.kas p.ks
  nd : g.kas.Nodup
  sq : Paired (SqAt Cs H) g.sas p.ss
  dj : ∀ (i j : Nat) (a b : SA) (x : Addr), g.sas[i]? = some a → g.sas[j]? = some b → a.mem x → b.mem x → i = j
  ll : g.lk ≠ g.ls
  la : ∀ a ∈ g.sas, g.lk ≠ a.l ∧ g.ls ≠ a.l
theorem kf_sf {n : Nat} {r l w : V} {e : Int} {m : Nat} {st : Str} {d a t C C' dx dx' : Addr} : HO.ins C dx (kf n r l w) ≠ HO.ins C' dx' (sf e m st d a t) := fun z => by
  have z2 := (HO.ins.inj z).2.2
  have z3 := (List.cons.inj z2).1
  have z4 : ("number" : Str) = "epoch" := (Prod.mk.inj z3).1
  exact absurd z4 (by decide +kernel)
section
variable {Ck Cs : Addr} {H H' : Hp} {g : Sg} {p : Sde}
theorem KpAt.there {C a : Addr} {k : Kp} (h : KpAt C H a k) : H a ≠ none := by
  obtain ⟨dx, r, l, w, e, _⟩ := h
  rw [e]
  exact fun z => by cases z
/-- a keeper is none of a sequencer's places, nor a list -/
theorem KpAt.off {C a : Addr} {k : Kp} {b : SA} {s : Sq} (h : KpAt C H a k) (S : SqAt Cs H b s) : ¬ b.mem a := fun z => by
  obtain ⟨dx, r, l, w, e, _⟩ := h
  obtain ⟨dx2, e2⟩ := S.ob
  obtain ⟨kvs, e3, _⟩ := S.rows
  rcases z with rfl | rfl | rfl | rfl
  · exact kf_sf (Option.some.inj (e.symm.trans e2))
  · rw [e] at e3; cases e3
  · have e4 := S.row; rw [e] at e4; cases e4
  · have e4 := S.tk; rw [e] at e4; cases e4
theorem KpAt.offL {C a b : Addr} {k : Kp} {xs : List V} (h : KpAt C H a k) (hb : H b = some (.lst xs)) : b ≠ a := fun z => by
  obtain ⟨dx, r, l, w, e, _⟩ := h
  rw [z, e] at hb
  cases hb
theorem SqAt.offL {a : SA} {s : Sq} {b : Addr} {xs : List V} (S : SqAt Cs H a s) (hb : H b = some (.lst xs)) (n : b ≠ a.l) : ¬ a.mem b := fun z => by
  obtain ⟨dx2, e2⟩ := S.ob
  obtain ⟨kvs, e3, _⟩ := S.rows
  rcases z with rfl | rfl | rfl | rfl
  · rw [e2] at hb; cases hb
  · rw [e3] at hb; cases hb
  · exact n rfl
  · have e4 := S.tk; rw [hb] at e4; cases e4
theorem Pd.mem {α β : Type} {F : α → β → Prop} {xs : List α} {ys : List β} (r : Paired F xs ys) {x : α} (h : x ∈ xs) : ∃ y, y ∈ ys ∧ F x y := by
  obtain ⟨i, hi⟩ := List.getElem?_of_mem h
  obtain ⟨y, hy, q⟩ := Pd.getL r hi
  exact ⟨y, List.mem_of_getElem? hy, q⟩
theorem Pd.ofIx {α β : Type} {F : α → β → Prop} : ∀ {xs : List α} {ys : List β}, xs.length = ys.length → (∀ (i : Nat) (x : α) (y : β), xs[i]? = some x → ys[i]? = some y → F x y) → Paired F xs ys
  | [], [], _, _ => .nil
  | [], _ :: _, h, _ => by simp at h
  | _ :: _, [], h, _ => by simp at h
  | x :: xs, y :: ys, h, f => .cons (f 0 x y rfl rfl) (Pd.ofIx (by simpa using h) fun i a b h1 h2 => f (i + 1) a b (by simpa using h1) (by simpa using h2))
theorem Pd.ix {α β : Type} {F : α → β → Prop} {xs : List α} {ys : List β} (r : Paired F xs ys) {i : Nat} {x : α} {y : β} (h1 : xs[i]? = some x) (h2 : ys[i]? = some y) : F x y := by
  obtain ⟨y', e, q⟩ := Pd.getL r h1
  rw [h2] at e
  cases e
  exact q
theorem SdAt.there (S : SdAt Ck Cs H g p) {b : Addr} (h : g.mem b) : H b ≠ none := by
  rcases h with rfl | rfl | h | ⟨a, ha, hb⟩
  · rw [S.lk]; exact fun z => by cases z
  · rw [S.ls]; exact fun z => by cases z
  · obtain ⟨k, _, q⟩ := Pd.mem S.kp h
    exact q.there
  · obtain ⟨s, _, q⟩ := Pd.mem S.sq ha
    exact q.there hb
theorem SdAt.mono {M : Addr → Prop} (S : SdAt Ck Cs H g p) (k : Kpt M H H') (h : ∀ b, g.mem b → ¬ M b) : SdAt Ck Cs H' g p where
  lk := k.keep _ _ S.lk (h _ (.inl rfl))
  ls := k.keep _ _ S.ls (h _ (.inr (.inl rfl)))
  kp := Pd.ofIx S.kp.length fun i x y h1 h2 => (Pd.ix S.kp h1 h2).mono k (h _ (.inr (.inr (.inl (List.mem_of_getElem? h1)))))
  nd := S.nd
  sq := Pd.ofIx S.sq.length fun i x y h1 h2 => (Pd.ix S.sq h1 h2).mono k fun b hb => h _ (.inr (.inr (.inr ⟨x, List.mem_of_getElem? h1, hb⟩)))
  dj := S.dj
  ll := S.ll
  la := S.la
/-- one keeper's step -/
theorem SdAt.kpStep (S : SdAt Ck Cs H g p) {i : Nat} {a : Addr} (ha : g.kas[i]? = some a) {k' : Kp} (q : KpAt Ck H' a k') (k : Kpt (fun b => b = a) H H') : SdAt Ck Cs H' g { p with ks := p.ks.set i k' } := by
  obtain ⟨k0, hk0, q0⟩ := Pd.getL S.kp ha
  refine ⟨k.keep _ _ S.lk (q0.offL S.lk), k.keep _ _ S.ls (q0.offL S.ls), ?_, S.nd, ?_, S.dj, S.ll, S.la⟩
  · refine Pd.ofIx (by rw [List.length_set]; exact S.kp.length) fun j x y h1 h2 => ?_
    by_cases hj : j = i
    · subst hj
      rw [List.getElem?_set_self (List.getElem?_eq_some_iff.mp hk0).1] at h2
      rw [ha] at h1
      cases h1
      cases h2
      exact q
    · rw [List.getElem?_set_ne (fun z => hj z.symm)] at h2
      exact (Pd.ix S.kp h1 h2).mono k fun z => hj (nd_ix S.nd h1 (by rw [z]; exact ha))
  · refine Pd.ofIx S.sq.length fun j x y h1 h2 => ?_
    have q1 := Pd.ix S.sq h1 h2
    exact q1.mono k fun b hb z => q0.off q1 (by rw [← z]; exact hb)
/-- one sequencer's step -/
theorem SdAt.sqStep (S : SdAt Ck Cs H g p) {i : Nat} {a a' : SA} (ha : g.sas[i]? = some a) {s' : Sq} (q : SqAt Cs H' a' s') (hp : a'.p = a.p) (hn : ∀ b, a'.mem b → a.mem b ∨ H b = none) (k : Kpt a.mem H H') :
    SdAt Ck Cs H' { g with sas := g.sas.set i a' } { p with ss := p.ss.set i s' } := by
  obtain ⟨s0, hs0, q0⟩ := Pd.getL S.sq ha
  have hi := (List.getElem?_eq_some_iff.mp ha).1
  have ham := List.mem_of_getElem? ha
  have els : (g.sas.set i a').map (fun a => V.ref a.p) = g.sas.map fun a => V.ref a.p := by
    rw [List.map_set]
    show (g.sas.map fun a => V.ref a.p).set i (V.ref a'.p) = _
    rw [hp]
    refine List.ext_getElem? fun j => ?_
    by_cases hj : j = i
    · subst hj
      rw [List.getElem?_set_self (by rw [List.length_map]; exact hi), List.getElem?_map, ha]
      rfl
    · rw [List.getElem?_set_ne (fun z => hj z.symm)]
  have cases' : ∀ (j : Nat) (b : SA), (g.sas.set i a')[j]? = some b → (j = i ∧ b = a') ∨ (j ≠ i ∧ g.sas[j]? = some b) := fun j b h => by
    by_cases hj : j = i
    · subst hj
      rw [List.getElem?_set_self hi] at h
      exact .inl ⟨rfl, (Option.some.inj h).symm⟩
    · rw [List.getElem?_set_ne (fun z => hj z.symm)] at h
      exact .inr ⟨hj, h⟩
  have old : ∀ (j : Nat) (b : SA) (x : Addr), j ≠ i → g.sas[j]? = some b → b.mem x → ¬ a'.mem x := fun j b x hj hb hx hx' => by
    rcases hn x hx' with z | z
    · exact hj (S.dj j i b a x hb ha hx z)
    · obtain ⟨s1, _, q1⟩ := Pd.getL S.sq hb
      exact q1.there hx z
  refine ⟨k.keep _ _ S.lk (q0.offL S.lk (S.la a ham).1), ?_, ?_, S.nd, ?_, fun j1 j2 b1 b2 x h1 h2 hx1 hx2 => ?_, S.ll, fun b hb => ?_⟩
  · show H' g.ls = some (.lst ((g.sas.set i a').map fun a => V.ref a.p))
    rw [els]
    exact k.keep _ _ S.ls (q0.offL S.ls (S.la a ham).2)
  · refine Pd.ofIx S.kp.length fun j x y h1 h2 => ?_
    have q1 := Pd.ix S.kp h1 h2
    exact q1.mono k (q1.off q0)
  · refine Pd.ofIx (by rw [List.length_set, List.length_set]; exact S.sq.length) fun j x y h1 h2 => ?_
    rcases cases' j x h1 with ⟨rfl, rfl⟩ | ⟨hj, hx⟩
    · rw [List.getElem?_set_self (List.getElem?_eq_some_iff.mp hs0).1] at h2
      cases h2
      exact q
    · rw [List.getElem?_set_ne (fun z => hj z.symm)] at h2
      exact (Pd.ix S.sq hx h2).mono k fun b hb z => hj (S.dj j i x a b hx ha hb z)
  · rcases cases' j1 b1 h1 with ⟨rfl, rfl⟩ | ⟨hj1, e1⟩
    · rcases cases' j2 b2 h2 with ⟨rfl, rfl⟩ | ⟨hj2, e2⟩
      · rfl
      · exact absurd hx1 (old j2 b2 x hj2 e2 hx2)
    · rcases cases' j2 b2 h2 with ⟨rfl, rfl⟩ | ⟨hj2, e2⟩
      · exact absurd hx2 (old j1 b1 x hj1 e1 hx1)
      · exact S.dj j1 j2 b1 b2 x e1 e2 hx1 hx2
  · rcases List.mem_or_eq_of_mem_set hb with hb | rfl
    · exact S.la b hb
    · refine ⟨fun z => ?_, fun z => ?_⟩
      · rcases hn b.l (.inr (.inr (.inl rfl))) with y | y
        · exact q0.offL S.lk (S.la a ham).1 (by rw [z]; exact y)
        · rw [← z, S.lk] at y; cases y
      · rcases hn b.l (.inr (.inr (.inl rfl))) with y | y
        · exact q0.offL S.ls (S.la a ham).2 (by rw [z]; exact y)
        · rw [← z, S.ls] at y; cases y
/-- what stands there behind a step stood there before or is new -/
theorem Sg.set_mem {i : Nat} {a a' : SA} (ha : g.sas[i]? = some a) (hn : ∀ b, a'.mem b → a.mem b ∨ H b = none) {b : Addr} (h : Sg.memS { g with sas := g.sas.set i a' } b) : g.memS b ∨ H b = none := by
  obtain ⟨x, hx, hb⟩ := h
  rcases List.mem_or_eq_of_mem_set hx with hx | rfl
  · exact .inl ⟨x, hx, hb⟩
  · rcases hn b hb with z | z
    · exact .inl ⟨a, List.mem_of_getElem? ha, z⟩
    · exact .inr z
end
/-! ### all sequencers hear a letter -/
theorem map_step {α : Type} (f : α → α) {l : List α} {i : Nat} {x : α} (h : l[i]? = some x) : ((l.take i).map f ++ l.drop i).set i (f x) = (l.take (i + 1)).map f ++ l.drop (i + 1) := by
  have hi := (List.getElem?_eq_some_iff.mp h).1
  have hl : ((l.take i).map f).length = i := by rw [List.length_map, List.length_take]; omega
  refine List.ext_getElem? fun j => ?_
  by_cases hj : j = i
  · subst hj
    rw [List.getElem?_set_self (by rw [List.length_append, hl, List.length_drop]; omega), take_snoc h, List.map_append, List.append_assoc, List.getElem?_append_right (by omega), hl, Nat.sub_self]
    rfl
  · rw [List.getElem?_set_ne (fun z => hj z.symm), take_snoc h, List.map_append, List.append_assoc]
    by_cases c : j < i
    · rw [List.getElem?_append_left (by omega), List.getElem?_append_left (by omega)]
    · rw [List.getElem?_append_right (by omega), List.getElem?_append_right (by omega), hl, List.getElem?_append_right (by show 1 ≤ j - i; omega), List.getElem?_drop, List.getElem?_drop]
      show l[i + (j - i)]? = l[i + 1 + (j - i - 1)]?
      rw [show i + (j - i) = i + 1 + (j - i - 1) by omega]
theorem map_at {α : Type} (f : α → α) {l : List α} {i : Nat} {x : α} (h : l[i]? = some x) : ((l.take i).map f ++ l.drop i)[i]? = some x := by
  have hi := (List.getElem?_eq_some_iff.mp h).1
  have hl : ((l.take i).map f).length = i := by rw [List.length_map, List.length_take]; omega
  rw [List.getElem?_append_right (by omega), hl, Nat.sub_self, List.getElem?_drop, Nat.add_zero]
  exact h
theorem hear_all {K : PySem.W.Frag} {Ck Cs : Addr} {D : Ends} {H : Hp} {g : Sg} {p : Sde} {lv : V} {l : Lt} {m c i j : Nat} {E : XK} (f : Option V → L2.St) (v0 : Option V) (fs : ∀ v x, (f v).set i (some x) = f (some x)) (fg : ∀ x, (f (some x))[i]? = some (some x)) (fj : ∀ v, (f v)[j]? = some (some lv))
    (S : SdAt Ck Cs H g p) (hl : LtV H lv l) (hd : l.down = false) (ok : ∀ s ∈ p.ss, SqOk m c s) (hm : m ≤ 60) (hlo : LtOk m l)
    (kk : ∀ (v : Option V) (g' : Sg) (H' : Hp), g'.lk = g.lk → g'.ls = g.ls → g'.kas = g.kas → SdAt Ck Cs H' g' (p.heard l) → (∀ b, g'.memS b → g.memS b ∨ H b = none) → Kpt g.memS H H' → D.nx (f v) H') :
    ∃ W : Nat → Nat → L2.St → Hp → Prop, (∃ m, W 0 m (f v0) H) ∧ ∀ i' m s H, W i' m s H → ((Itl K g.ls).stop i' H ∧ D.nx s H) ∨
      ((Itl K g.ls).go i' H ∧ ∃ N : L2.St → Hp → Prop, (∀ s' H', N s' H' → ∃ m', m' < m ∧ W (i' + 1) m' s' H') ∧ ∀ x H', (Itl K g.ls).yld i' H x H' →
        gName i x s H' fun s2 H2 => tDrop (tMeth Cs "hear" (spSqHear Cs) [] E (tVar i) (tCons (tVar j) tNil)) { D with nx := N, ct := N, bk := D.nx } s2 H2) := by
  have hlen := S.sq.length
  refine for_list (K := K) (a := g.ls) (xs := g.sas.map fun a => V.ref a.p) (fun n s H1 => ∃ (v : Option V) (g1 : Sg), s = f v ∧ g1.lk = g.lk ∧ g1.ls = g.ls ∧ g1.kas = g.kas ∧ g1.sas.map (fun a => V.ref a.p) = g.sas.map (fun a => V.ref a.p) ∧
      SdAt Ck Cs H1 g1 { p with ss := (p.ss.take n).map (·.hear l) ++ p.ss.drop n } ∧ (∀ b, g1.memS b → g.memS b ∨ H b = none) ∧ Kpt g.memS H H1)
    ⟨v0, g, rfl, rfl, rfl, rfl, rfl, S, fun b hb => .inl hb, .refl⟩ (fun n s H1 _ ⟨v, g1, _, _, e2, _, e4, S1, _⟩ => by rw [← e2, ← e4]; exact sqL S1.ls) ?_ ?_
  · rintro n x s H1 hx ⟨v, g1, rfl, e1, e2, e3, e4, S1, mm, k1⟩
    rw [← e4] at hx
    rw [List.getElem?_map] at hx
    obtain ⟨a, ha, rfl⟩ : ∃ a, g1.sas[n]? = some a ∧ x = V.ref a.p := by
      cases e : g1.sas[n]? with
      | none => rw [e] at hx; cases hx
      | some a => rw [e] at hx; exact ⟨a, rfl, (Option.some.inj hx).symm⟩
    have hn1 := S1.sq.length
    have hnl : n < p.ss.length := by
      have h1 := (List.getElem?_eq_some_iff.mp ha).1
      have h2 : ((p.ss.take n).map (·.hear l) ++ p.ss.drop n).length = p.ss.length := by rw [List.length_append, List.length_map, List.length_take, List.length_drop]; omega
      rw [h2] at hn1
      omega
    have hs : p.ss[n]? = some p.ss[n] := List.getElem?_eq_getElem hnl
    have q := Pd.ix S1.sq ha (map_at (·.hear l) hs)
    obtain ⟨dx, hp⟩ := q.ob
    show tDrop _ _ ((f v).set i (some (.ref a.p))) H1
    rw [fs]
    refine ⟨_, fg _, a.p, dx, _, rfl, hp, by rfl, _, fj _, a, p.ss[n], lv, l, m, c, rfl, q, hl.mono k1.tup, hd, ok _ (List.getElem_mem hnl), hm, hlo, fun a' H2 hp' q' hn k2 => ?_⟩
    have S2 := S1.sqStep ha q' hp' hn k2
    have mm2 : ∀ b, Sg.memS { g1 with sas := g1.sas.set n a' } b → g.memS b ∨ H b = none := fun b hb => by
      rcases Sg.set_mem ha hn hb with z | z
      · exact mm b z
      · exact k1.free z
    refine ⟨some (.ref a.p), { g1 with sas := g1.sas.set n a' }, rfl, e1, e2, e3, ?_, ?_, mm2, k1.then k2 fun b hb => mm b ⟨a, List.mem_of_getElem? ha, hb⟩⟩
    · have h1 : H2 g1.ls = some (.lst ((g1.sas.set n a').map fun a => V.ref a.p)) := S2.ls
      have h2 : H2 g1.ls = some (.lst (g1.sas.map fun a => V.ref a.p)) := k2.keep _ _ S1.ls (q.offL S1.ls (S1.la a (List.mem_of_getElem? ha)).2)
      rw [h1] at h2
      have h3 := HO.lst.inj (Option.some.inj h2)
      exact h3.trans e4
    · rw [← map_step (·.hear l) hs]
      exact S2
  · rintro s H1 ⟨v, g1, rfl, e1, e2, e3, e4, S1, mm, k1⟩
    rw [List.length_map, hlen, List.take_length, List.drop_length, List.append_nil] at S1
    exact kk v g1 H1 e1 e2 e3 S1 mm k1
end K49

/-! K49C1: councils: where they stand; begin, send, lose, flush, fall, stop. -/
namespace K49
open PySem PySem.Spec PyProof.Rows L2
abbrev sCnInit : Stmt := inClass (top 20) 0
abbrev sCnBegin : Stmt := inClass (top 20) 1
abbrev sCnSend : Stmt := inClass (top 20) 2
abbrev sCnDeliver : Stmt := inClass (top 20) 3
abbrev sCnLose : Stmt := inClass (top 20) 4
abbrev sCnFlush : Stmt := inClass (top 20) 5
abbrev sCnFall : Stmt := inClass (top 20) 6
abbrev sCnStop : Stmt := inClass (top 20) 7
abbrev sCnExch : Stmt := inClass (top 20) 8
/-- a council at c: its side, its letters' list at ll -/
structure CnAt (Ck Cs Cc : Addr) (H : Hp) (c ll : Addr) (g : Sg) (p : Sde) (w : List Lt) : Prop where
  ob : ∃ dx, H c = some (.ins Cc dx (cf g.lk g.ls ll))
  sd : SdAt Ck Cs H g p
  le : ∃ vs, H ll = some (.lst vs) ∧ Paired (LtV H) vs w
  nk : ll ≠ g.lk
  ns : ll ≠ g.ls
  na : ∀ a ∈ g.sas, ll ≠ a.l
def CnMem (c ll : Addr) (g : Sg) (b : Addr) : Prop := b = c ∨ b = ll ∨ g.mem b
theorem cf_kf {n : Nat} {r l w : V} {k s a C C' dx dx' : Addr} : HO.ins C dx (cf k s a) ≠ HO.ins C' dx' (kf n r l w) := fun z => by
  have z2 := (HO.ins.inj z).2.2
  have z4 : ("keepers" : Str) = "number" := (Prod.mk.inj (List.cons.inj z2).1).1
  exact absurd z4 (by decide +kernel)
theorem cf_sf {e : Int} {m : Nat} {st : Str} {d b t : Addr} {k s a C C' dx dx' : Addr} : HO.ins C dx (cf k s a) ≠ HO.ins C' dx' (sf e m st d b t) := fun z => by
  have z2 := (HO.ins.inj z).2.2
  have z4 : ("keepers" : Str) = "epoch" := (Prod.mk.inj (List.cons.inj z2).1).1
  exact absurd z4 (by decide +kernel)
section
variable {Ck Cs Cc : Addr} {H H' : Hp} {c ll : Addr} {g g' : Sg} {p p' : Sde} {w w' : List Lt}
theorem CnAt.c_off (C : CnAt Ck Cs Cc H c ll g p w) : ¬ (c ∈ g.kas ∨ g.memS c) := fun z => by
  obtain ⟨dx, e⟩ := C.ob
  rcases z with z | ⟨a, ha, z⟩
  · obtain ⟨k, _, dx2, r, l, w, e2, _⟩ := Pd.mem C.sd.kp z
    rw [e] at e2
    exact cf_kf (Option.some.inj e2)
  · obtain ⟨s, _, q⟩ := Pd.mem C.sd.sq ha
    obtain ⟨dx2, e2⟩ := q.ob
    obtain ⟨kvs, e3, _⟩ := q.rows
    rcases z with rfl | rfl | rfl | rfl
    · rw [e] at e2; exact cf_sf (Option.some.inj e2)
    · rw [e] at e3; cases e3
    · have e4 := q.row; rw [e] at e4; cases e4
    · have e4 := q.tk; rw [e] at e4; cases e4
theorem CnAt.l_off (C : CnAt Ck Cs Cc H c ll g p w) : ¬ (ll ∈ g.kas ∨ g.memS ll) := fun z => by
  obtain ⟨vs, e, _⟩ := C.le
  rcases z with z | ⟨a, ha, z⟩
  · obtain ⟨k, _, q⟩ := Pd.mem C.sd.kp z
    exact q.offL e rfl
  · obtain ⟨s, _, q⟩ := Pd.mem C.sd.sq ha
    exact q.offL e (C.na a ha) z
theorem CnAt.c_l (C : CnAt Ck Cs Cc H c ll g p w) : c ≠ ll := by
  obtain ⟨dx, e⟩ := C.ob
  obtain ⟨vs, e2, _⟩ := C.le
  exact ne_of e e2 (by intro z; cases z)
/-- a step of its side -/
theorem CnAt.side {M : Addr → Prop} (C : CnAt Ck Cs Cc H c ll g p w) (S : SdAt Ck Cs H' g' p') (e1 : g'.lk = g.lk) (e2 : g'.ls = g.ls) (mm : ∀ b, g'.memS b → g.memS b ∨ H b = none) (k : Kpt M H H') (hM : ∀ b, M b → b ∈ g.kas ∨ g.memS b) : CnAt Ck Cs Cc H' c ll g' p' w := by
  obtain ⟨dx, e⟩ := C.ob
  obtain ⟨vs, el, hq⟩ := C.le
  refine ⟨⟨dx, by rw [e1, e2]; exact k.keep _ _ e fun z => C.c_off (hM _ z)⟩, S, ⟨vs, k.keep _ _ el fun z => C.l_off (hM _ z), Pd.mono (fun _ _ z => LtV.mono k.tup z) hq⟩, by rw [e1]; exact C.nk, by rw [e2]; exact C.ns, fun a ha z => ?_⟩
  rcases mm ll ⟨a, ha, .inr (.inr (.inl z))⟩ with y | y
  · exact C.l_off (.inr y)
  · rw [el] at y; cases y
theorem CnMem.side (e1 : g'.lk = g.lk) (e2 : g'.ls = g.ls) (e3 : g'.kas = g.kas) (mm : ∀ b, g'.memS b → g.memS b ∨ H b = none) {b : Addr} (h : CnMem c ll g' b) : CnMem c ll g b ∨ H b = none := by
  rcases h with h | h | h | h | h | h
  · exact .inl (.inl h)
  · exact .inl (.inr (.inl h))
  · exact .inl (.inr (.inr (.inl (by rw [← e1]; exact h))))
  · exact .inl (.inr (.inr (.inr (.inl (by rw [← e2]; exact h)))))
  · exact .inl (.inr (.inr (.inr (.inr (.inl (by rw [← e3]; exact h))))))
  · rcases mm b h with z | z
    · exact .inl (.inr (.inr (.inr (.inr (.inr z)))))
    · exact .inr z
theorem CnMem.of {b : Addr} (h : b ∈ g.kas ∨ g.memS b) : CnMem c ll g b := .inr (.inr (.inr (.inr h)))
theorem CnAt.there (C : CnAt Ck Cs Cc H c ll g p w) {b : Addr} (h : CnMem c ll g b) : H b ≠ none := by
  rcases h with rfl | rfl | h
  · obtain ⟨dx, e⟩ := C.ob
    rw [e]; exact fun z => by cases z
  · obtain ⟨vs, e, _⟩ := C.le
    rw [e]; exact fun z => by cases z
  · exact C.sd.there h
theorem CnAt.mono {M : Addr → Prop} (C : CnAt Ck Cs Cc H c ll g p w) (k : Kpt M H H') (h : ∀ b, CnMem c ll g b → ¬ M b) : CnAt Ck Cs Cc H' c ll g p w := by
  obtain ⟨dx, e⟩ := C.ob
  obtain ⟨vs, el, hq⟩ := C.le
  exact ⟨⟨dx, k.keep _ _ e (h _ (.inl rfl))⟩, C.sd.mono k fun b hb => h b (.inr (.inr hb)), ⟨vs, k.keep _ _ el (h _ (.inr (.inl rfl))), Pd.mono (fun _ _ z => LtV.mono k.tup z) hq⟩, C.nk, C.ns, C.na⟩
/-- its letters changed -/
theorem CnAt.letters (C : CnAt Ck Cs Cc H c ll g p w) {vs : List V} (hq : Paired (LtV H) vs w') : CnAt Ck Cs Cc (upd H ll (.lst vs)) c ll g p w' ∧ Kpt (CnMem c ll g) H (upd H ll (.lst vs)) := by
  obtain ⟨dx, e⟩ := C.ob
  obtain ⟨vs0, el, _⟩ := C.le
  have k : Kpt (fun b => b = ll) H (upd H ll (.lst vs)) := Kpt.wr rfl el lst_tup
  have hs : SdAt Ck Cs (upd H ll (.lst vs)) g p := C.sd.mono k fun b hb z => by
    subst z
    rcases hb with hb | hb | hb | hb
    · exact C.nk hb
    · exact C.ns hb
    · exact C.l_off (.inl hb)
    · exact C.l_off (.inr hb)
  exact ⟨⟨⟨dx, by rw [upd_ne C.c_l]; exact e⟩, hs, ⟨vs, upd_same, Pd.mono (fun _ _ z => LtV.mono k.tup z) hq⟩, C.nk, C.ns, C.na⟩, k.mono fun b z => .inr (.inl z)⟩
end
/-! ### the promises -/
section
variable (Ck Cs Cc Cb : Addr)
/-- what is wanted behind a step: the council at p', w' -/
def CnTo (H : Hp) (c ll : Addr) (g : Sg) (p' : Sde) (w' : List Lt) (Q : Hp → Prop) : Prop :=
  ∀ (g' : Sg) (H' : Hp), CnAt Ck Cs Cc H' c ll g' p' w' → (∀ b, CnMem c ll g' b → CnMem c ll g b ∨ H b = none) → Kpt (CnMem c ll g) H H' → Q H'
/-- what is wanted where BadName(x) is raised -/
def Bad (H : Hp) (x : V) (E : XK) : Prop := ∀ (d : Addr) (H' : Hp), Kpt No H H' → H' d = some (.xd [(("name" : Str), x)]) → E (.ref Cb) (some d) H'
def spCnSend : Sp := fun vs H Q _ => ∃ (c ll : Addr) (g : Sg) (p : Sde) (w : List Lt) (i : Nat) (s : Sq) (m b : Nat), vs = [.ref c, .int i] ∧ CnAt Ck Cs Cc H c ll g p w ∧ p.ss[i]? = some s ∧ SqOk m b s ∧ m ≤ 60 ∧ w.length ≤ 90000 ∧
  CnTo Ck Cs Cc H c ll g p (w ++ s.toSend) (Q .non)
def spCnFlush : Sp := fun vs H Q _ => ∃ (c ll : Addr) (g : Sg) (p : Sde) (w : List Lt) (i : Nat) (k : Kp), vs = [.ref c, .int i] ∧ CnAt Ck Cs Cc H c ll g p w ∧ p.ks[i]? = some k ∧ k.recs.length + k.loose.length ≤ 5000 ∧ k.wait.length ≤ 5000 ∧ w.length ≤ 90000 ∧
  CnTo Ck Cs Cc H c ll g (p.at' i Kp.flush) (w ++ k.wait) (Q .non)
def spCnFall : Sp := fun vs H Q _ => ∃ (c ll : Addr) (g : Sg) (p : Sde) (w : List Lt) (i n : Nat) (k : Kp), vs = [.ref c, .int i, .int n] ∧ CnAt Ck Cs Cc H c ll g p w ∧ p.ks[i]? = some k ∧ k.recs.length + k.loose.length ≤ 5000 ∧ n ≤ k.loose.length ∧
  CnTo Ck Cs Cc H c ll g (p.at' i (·.fall n)) w (Q .non)
def spCnStop : Sp := fun vs H Q _ => ∃ (c ll : Addr) (g : Sg) (p : Sde) (w : List Lt) (i : Nat) (s : Sq), vs = [.ref c, .int i] ∧ CnAt Ck Cs Cc H c ll g p w ∧ p.ss[i]? = some s ∧
  CnTo Ck Cs Cc H c ll g { p with ss := p.ss.set i { s with st := .stopped } } w (Q .non)
def spCnLose : Sp := fun vs H Q E => ∃ (c ll : Addr) (g : Sg) (p : Sde) (w : List Lt) (x : V), vs = [.ref c, x] ∧ CnAt Ck Cs Cc H c ll g p w ∧ w.length ≤ 90000 ∧
  ((∃ i : Nat, x = .int i ∧ i < w.length ∧ CnTo Ck Cs Cc H c ll g p (w.eraseIdx i) (Q .non)) ∨
    (((∃ e : Int, x = .int e ∧ ¬ (0 ≤ e ∧ e ≤ (w.length : Int) - 1)) ∨ ∃ z, x = .str z) ∧ Bad Cb H x E))
def spCnDeliver : Sp := fun vs H Q E => ∃ (c ll : Addr) (g : Sg) (p : Sde) (w : List Lt) (x : V) (kept : Bool) (m b r : Nat), vs = [.ref c, x, .bl kept] ∧ CnAt Ck Cs Cc H c ll g p w ∧ w.length ≤ 90000 ∧ SdeOk m b r p ∧ m ≤ 60 ∧ b ≤ rowTop ∧ (∀ l ∈ w, LtOk m l) ∧
  ((∃ (i : Nat) (l : Lt), x = .int i ∧ w[i]? = some l ∧ CnTo Ck Cs Cc H c ll g (p.bring l) (if kept = true then w else w.eraseIdx i) (Q .non)) ∨
    (((∃ e : Int, x = .int e ∧ ¬ (0 ≤ e ∧ e ≤ (w.length : Int) - 1)) ∨ ∃ z, x = .str z) ∧ Bad Cb H x E))
def spCnBegin : Sp := fun vs H Q E => ∃ (c ll : Addr) (g : Sg) (p : Sde) (w : List Lt) (x : V), vs = [.ref c, x] ∧ CnAt Ck Cs Cc H c ll g p w ∧ p.ks.length ≤ 60 ∧ p.ss.length ≤ 1000 ∧
  ((∃ e : Int, x = .int e ∧ (0 ≤ e ∧ e ≤ 999999999999) ∧ ¬ e ∈ p.ss.map (·.ep) ∧ CnTo Ck Cs Cc H c ll g { p with ss := p.ss ++ [.new e p.ks.length] } w (Q (.int (p.ss.length : Nat)))) ∨
    (((∃ e : Int, x = .int e ∧ (¬ (0 ≤ e ∧ e ≤ 999999999999) ∨ e ∈ p.ss.map (·.ep))) ∨ ∃ z, x = .str z) ∧ Bad Cb H x E))
end
section
variable {P : Program} {w : World} {K : PySem.W.Frag} {mg : Str → Option Value} {base : Heap} {Cr Ck Cs Cc Cb : Addr}
/-! ### send -/
theorem scCnSend : FnScope ["self", "number"] ["self", "number"] (defScope sCnSend) := ⟨rfl, rfl, rfl, by decide +kernel, rfl, by decide +kernel, by decide +kernel⟩
theorem ok_cnSend {f fS : Addr} {fd fdS : FuncData} (F : Fun K "send" "Council.send" sCnSend f fd) (T : Txt K mg Cr Ck Cs Cc) (GS : FnOk P w K mg base CX0 1 fS fdS ["self"] (spSqSend Cs)) (bS : Binds K fdS ["self"] []) (mS : Meth K Cs "to_send" fS) :
    FnOk P w K mg base CX0 2 f fd ["self", "number"] (spCnSend Ck Cs Cc) := by
  refine F.ok scCnSend (fun vs H Q E h => ?_) (fun cdv A outer s H vs Q E hr h => ?_)
  · obtain ⟨c, ll, g, p, w, i, s, m, b, rfl, _⟩ := h
    rfl
  · obtain ⟨c, ll, g, p, w, i, s, m, b, rfl, C, hs, ok, hm, hw, kk⟩ := h
    obtain ⟨dx, hc⟩ := C.ob
    obtain ⟨a, ha, q⟩ := Pd.get C.sd.sq hs
    obtain ⟨dx2, ho⟩ := q.ob
    refine ⟨_, pss_one (ps_expr (pe_bm PySem.F.plainAttrs_list PySem.F.slot_list_extend PySem.F.type_list_extend mt_extend (pe_fld (pv 0) rfl) (pa_cons (pe_callTy call_list_of (by rfl) T.b.list (by decide +kernel) (pa_cons
      (pe_meth0 (pe_ix ix_list (pe_fld (pv 0) rfl) (pv 1) (fun _ _ => rfl)) T.clS mS GS hr bS .nil pass0) pa_nil)) pa_nil))), ?_⟩
    obtain ⟨vs, hl, hq⟩ := C.le
    refine ⟨_, rfl, c, Cc, dx, _, _, rfl, hc, T.clC, T.cLe, cf_l, .inl ⟨rfl, _, sqL hl⟩, _, rfl, c, Cc, dx, _, _, rfl, hc, T.clC, T.cSe, cf_s, _, rfl, g.ls, _, _, .ref a.p, rfl, rfl, sqL C.sd.ls, at_of (j := i) rfl (by rw [List.getElem?_map, ha]; rfl),
      a.p, dx2, _, rfl, ho, by rfl, a, s, rfl, q, by rw [ok.many]; exact hm, by rw [ok.tk, ok.many], fun v H1 hv k1 => ?_⟩
    obtain ⟨t, us, rfl, ht, hu⟩ := hv
    refine ⟨t, us, rfl, .inr (sqT ht), fun q2 nq => ?_⟩
    have k2 := k1.trans (Kpt.new (M := No) (o := .lst us) nq)
    have h2 : upd H1 q2 (.lst us) q2 = some (.lst us) := upd_same
    have hu2 := Pd.mono (fun _ _ z => LtV.mono (Kpt.new (M := No) (o := .lst us) nq).tup z) hu
    generalize upd H1 q2 (.lst us) = H2 at *
    have C2 := C.mono k2 fun _ _ z => z
    obtain ⟨vs', hl', hq'⟩ := C2.le
    have e := hl'.symm.trans (k2.same _ _ hl)
    have ev : vs' = vs := HO.lst.inj (Option.some.inj e)
    subst ev
    have hts := (toSend_ok ok).1
    have e1 := hq'.length
    have e2 := hu.length
    refine ⟨ll, q2, vs', us, rfl, rfl, hl', h2, small (by omega), ?_⟩
    obtain ⟨C3, k3⟩ := C2.letters (Pd.app hq' hu2)
    exact kk g _ C3 (fun b hb => .inl hb) ((k2.mono (N := CnMem c ll g) fun _ z => z.elim).trans k3)
/-! ### flush, fall, stop -/
theorem scCnFlush : FnScope ["self", "number"] ["self", "number"] (defScope sCnFlush) := ⟨rfl, rfl, rfl, by decide +kernel, rfl, by decide +kernel, by decide +kernel⟩
theorem ok_cnFlush {f fS : Addr} {fd fdS : FuncData} (F : Fun K "flush" "Council.flush" sCnFlush f fd) (T : Txt K mg Cr Ck Cs Cc) (GS : FnOk P w K mg base CX0 1 fS fdS ["self"] (spKpFlush Ck)) (bS : Binds K fdS ["self"] []) (mS : Meth K Ck "flush" fS) :
    FnOk P w K mg base CX0 2 f fd ["self", "number"] (spCnFlush Ck Cs Cc) := by
  refine F.ok scCnFlush (fun vs H Q E h => ?_) (fun cdv A outer s H vs Q E hr h => ?_)
  · obtain ⟨c, ll, g, p, w, i, k, rfl, _⟩ := h
    rfl
  · obtain ⟨c, ll, g, p, w, i, k, rfl, C, hs, hz, hzw, hw, kk⟩ := h
    obtain ⟨dx, hc⟩ := C.ob
    obtain ⟨a, ha, q⟩ := Pd.get C.sd.kp hs
    obtain ⟨dx2, r0, l0, w0, ho, _⟩ := id q
    refine ⟨_, pss_one (ps_expr (pe_bm PySem.F.plainAttrs_list PySem.F.slot_list_extend PySem.F.type_list_extend mt_extend (pe_fld (pv 0) rfl) (pa_cons (pe_callTy call_list_of (by rfl) T.b.list (by decide +kernel) (pa_cons
      (pe_meth0 (pe_ix ix_list (pe_fld (pv 0) rfl) (pv 1) (fun _ _ => rfl)) T.clK mS GS hr bS .nil pass0) pa_nil)) pa_nil))), ?_⟩
    obtain ⟨vs, hl, hq⟩ := C.le
    refine ⟨_, rfl, c, Cc, dx, _, _, rfl, hc, T.clC, T.cLe, cf_l, .inl ⟨rfl, _, sqL hl⟩, _, rfl, c, Cc, dx, _, _, rfl, hc, T.clC, T.cKe, cf_k, _, rfl, g.lk, _, _, .ref a, rfl, rfl, sqL C.sd.lk, at_of (j := i) rfl (by rw [List.getElem?_map, ha]; rfl),
      a, dx2, _, rfl, ho, by rfl, a, k, rfl, q, hz, fun v H1 hv q1 k1 => ?_⟩
    have ham := List.mem_of_getElem? ha
    have C1 := C.side (C.sd.kpStep ha q1 k1) rfl rfl (fun b hb => .inl hb) k1 fun b hb => .inl (by rw [hb]; exact ham)
    rw [← Sde.at'_some hs] at C1
    obtain ⟨t, us, rfl, ht, hu⟩ := hv
    refine ⟨t, us, rfl, .inr (sqT ht), fun q2 nq => ?_⟩
    have k2 : Kpt No H1 (upd H1 q2 (.lst us)) := Kpt.new nq
    have h2 : upd H1 q2 (.lst us) q2 = some (.lst us) := upd_same
    have hu2 := Pd.mono (fun _ _ z => LtV.mono k2.tup z) hu
    have C2 := C1.mono k2 fun _ _ z => z
    have kl : Kpt (CnMem c ll g) H (upd H1 q2 (.lst us)) := (k1.mono fun b hb => CnMem.of (.inl (by rw [hb]; exact ham))).trans (k2.mono fun _ z => z.elim)
    have hl2 : upd H1 q2 (.lst us) ll = some (.lst vs) := k2.same _ _ (k1.keep _ _ hl fun z => C.l_off (.inl (by rw [z]; exact ham)))
    generalize upd H1 q2 (.lst us) = H2 at *
    obtain ⟨vs', hl', hq'⟩ := C2.le
    have ev : vs' = vs := HO.lst.inj (Option.some.inj (hl'.symm.trans hl2))
    subst ev
    have e1 := hq'.length
    have e2 := hu.length
    refine ⟨ll, q2, vs', us, rfl, rfl, hl', h2, small (by omega), ?_⟩
    obtain ⟨C3, k3⟩ := C2.letters (Pd.app hq' hu2)
    exact kk g _ C3 (fun b hb => .inl hb) (kl.trans k3)
theorem scCnFall : FnScope ["self", "number", "many"] ["self", "number", "many"] (defScope sCnFall) := ⟨rfl, rfl, rfl, by decide +kernel, rfl, by decide +kernel, by decide +kernel⟩
theorem ok_cnFall {f fS : Addr} {fd fdS : FuncData} (F : Fun K "fall" "Council.fall" sCnFall f fd) (T : Txt K mg Cr Ck Cs Cc) (GS : FnOk P w K mg base CX0 2 fS fdS ["self", "many"] (spKpFall Ck)) (bS : Binds K fdS ["self", "many"] []) (mS : Meth K Ck "fall" fS) :
    FnOk P w K mg base CX0 3 f fd ["self", "number", "many"] (spCnFall Ck Cs Cc) := by
  refine F.ok scCnFall (fun vs H Q E h => ?_) (fun cdv A outer s H vs Q E hr h => ?_)
  · obtain ⟨c, ll, g, p, w, i, n, k, rfl, _⟩ := h
    rfl
  · obtain ⟨c, ll, g, p, w, i, n, k, rfl, C, hs, hz, hn, kk⟩ := h
    obtain ⟨dx, hc⟩ := C.ob
    obtain ⟨a, ha, q⟩ := Pd.get C.sd.kp hs
    obtain ⟨dx2, r0, l0, w0, ho, _⟩ := id q
    refine ⟨_, pss_one (ps_expr (pe_meth (pe_ix ix_list (pe_fld (pv 0) rfl) (pv 1) (fun _ _ => rfl)) T.clK mS GS hr bS .nil pass0 (pa_cons (pv 2) pa_nil))), ?_⟩
    refine ⟨_, rfl, c, Cc, dx, _, _, rfl, hc, T.clC, T.cKe, cf_k, _, rfl, g.lk, _, _, .ref a, rfl, rfl, sqL C.sd.lk, at_of (j := i) rfl (by rw [List.getElem?_map, ha]; rfl),
      a, dx2, _, rfl, ho, by rfl, _, rfl, a, k, n, rfl, q, hz, hn, fun H1 q1 k1 => ?_⟩
    have ham := List.mem_of_getElem? ha
    have C1 := C.side (C.sd.kpStep ha q1 k1) rfl rfl (fun b hb => .inl hb) k1 fun b hb => .inl (by rw [hb]; exact ham)
    rw [← Sde.at'_some (f := (·.fall n)) hs] at C1
    exact kk g _ C1 (fun b hb => .inl hb) (k1.mono fun b hb => CnMem.of (.inl (by rw [hb]; exact ham)))
theorem scCnStop : FnScope ["self", "number"] ["self", "number"] (defScope sCnStop) := ⟨rfl, rfl, rfl, by decide +kernel, rfl, by decide +kernel, by decide +kernel⟩
theorem ok_cnStop {f : Addr} {fd : FuncData} (F : Fun K "stop" "Council.stop" sCnStop f fd) (T : Txt K mg Cr Ck Cs Cc) : FnOk P w K mg base CX0 1 f fd ["self", "number"] (spCnStop Ck Cs Cc) := by
  refine F.ok scCnStop (fun vs H Q E h => ?_) (fun cdv A outer s H vs Q E hr h => ?_)
  · obtain ⟨c, ll, g, p, w, i, s, rfl, _⟩ := h
    rfl
  · obtain ⟨c, ll, g, p, w, i, s, rfl, C, hs, kk⟩ := h
    obtain ⟨dx, hc⟩ := C.ob
    obtain ⟨a, ha, q⟩ := Pd.get C.sd.sq hs
    obtain ⟨dx2, ho⟩ := q.ob
    refine ⟨_, pss_one (ps_fld (pe_ix ix_list (pe_fld (pv 0) rfl) (pv 1) (fun _ _ => rfl)) pe_str rfl), ?_⟩
    refine ⟨_, rfl, c, Cc, dx, _, _, rfl, hc, T.clC, T.cSe, cf_s, _, rfl, g.ls, _, _, .ref a.p, rfl, rfl, sqL C.sd.ls, at_of (j := i) rfl (by rw [List.getElem?_map, ha]; rfl),
      a.p, Cs, dx2, _, rfl, ho, T.clS, T.sSt, (by show 6 < 1000; decide), ?_⟩
    have sp := q.putSt ho .stopped
    have ham := List.mem_of_getElem? ha
    have S1 := C.sd.sqStep ha sp.1 rfl (fun b hb => .inl hb) sp.2
    have mm : ∀ b, Sg.memS { g with sas := g.sas.set i a } b → g.memS b ∨ H b = none := fun b hb => Sg.set_mem ha (fun b hb => .inl hb) hb
    have C1 := C.side S1 rfl rfl mm sp.2 fun b hb => .inr ⟨a, ham, hb⟩
    exact kk { g with sas := g.sas.set i a } _ C1 (fun b hb => CnMem.side (g := g) (g' := { g with sas := g.sas.set i a }) rfl rfl rfl mm hb) (sp.2.mono fun b hb => CnMem.of (.inr ⟨a, ham, hb⟩))
end
end K49

/-! K49C2: councils: lose, deliver. -/
namespace K49
open PySem PySem.Spec PyProof.Rows L2
section
variable {P : Program} {w : World} {K : PySem.W.Frag} {mg : Str → Option Value} {base : Heap} {Cr Ck Cs Cc Cb CE fB : Addr}
theorem scCnLose : FnScope ["self", "at"] ["self", "at"] (defScope sCnLose) := ⟨rfl, rfl, rfl, by decide +kernel, rfl, by decide +kernel, by decide +kernel⟩
theorem ok_cnLose {f fW : Addr} {fd fdW : FuncData} (F : Fun K "lose" "Council.lose" sCnLose f fd) (T : Txt K mg Cr Ck Cs Cc) (TB : PySem.K49X.BadTxt P K mg Cb CE fB)
    (GW : FnOk P w K mg base CX0 1 fW fdW ["thing", "low", "high"] spWhole) (bW : Binds K fdW ["thing", "low", "high"] []) (mW : mg "is_whole" = some (.ref fW)) (kW : PySem.W.keepIn K (.ref fW) = true) :
    FnOk P w K mg base (L2.CX P w) 2 f fd ["self", "at"] (spCnLose Ck Cs Cc Cb) := by
  refine F.okX scCnLose (fun vs H Q E h => ?_) (fun cdv A outer s H vs Q E hr h => ?_)
  · obtain ⟨c, ll, g, p, w, x, rfl, _⟩ := h
    rfl
  · obtain ⟨c, ll, g, p, w, x, rfl, C, hw, hx⟩ := h
    obtain ⟨dx, hc⟩ := C.ob
    obtain ⟨vs, hl, hq⟩ := C.le
    have el := hq.length
    refine ⟨_, pss_cons (ps_if (pt_not (pt_val (pe_call GW hr rfl mW kW bW .nil pass0 (pa_cons (pv 1) (pa_cons pe_int (pa_cons (pe_op op_sub (pe_callB call_len_seq (by rfl) T.b.len PySem.boot_len (pa_cons (pe_fld (pv 0) rfl) pa_nil)) pe_int) pa_nil))))))
        (pss_one (ps_raiseBad rfl TB hr (takes_of rfl rfl rfl rfl) (by exact (pa_cons (pv 1) pa_nil)))) pss_nil)
      (pss_one (ps_expr (pe_bm PySem.F.plainAttrs_list PySem.F.slot_list_pop PySem.F.type_list_pop mt_popAt (pe_fld (pv 0) rfl) (pa_cons (pv 1) pa_nil)))), ?_⟩
    rcases hx with ⟨i, rfl, hi, kk⟩ | ⟨hx, hE⟩
    · refine ⟨_, rfl, _, rfl, c, Cc, dx, _, _, rfl, hc, T.clC, T.cLe, cf_l, ll, _, rfl, .inl (sqL hl), _, _, rfl, rfl, _, _, _, rfl, .inl ⟨_, rfl, ?_⟩⟩
      refine ⟨_, rfl, ?_⟩
      rw [decide_eq_true (show (0 : Int) ≤ (i : Int) ∧ (i : Int) ≤ (vs.length : Int) - 1 by omega)]
      refine iteF ⟨_, rfl, c, Cc, dx, _, _, rfl, hc, T.clC, T.cLe, cf_l, .inl ⟨rfl, _, sqL hl⟩, _, rfl, ?_⟩
      obtain ⟨v, hv⟩ : ∃ v, vs[i]? = some v := ⟨vs[i]'(by omega), List.getElem?_eq_getElem (by omega)⟩
      refine ⟨ll, vs, _, i, v, rfl, rfl, hl, by omega, by omega, (by rw [seqIndex_of (by omega) (by omega)]; rfl), hv, ?_⟩
      obtain ⟨C3, k3⟩ := C.letters (Pd.erase i hq)
      exact kk g _ C3 (fun b hb => .inl hb) k3
    · have bad : ∀ d : Addr, H d = none → E (.ref Cb) (some d) (upd H d (.xd [(("name" : Str), x)])) := fun d nd => hE d _ (Kpt.new nd) upd_same
      rcases hx with ⟨e, rfl, he⟩ | ⟨z, rfl⟩
      · refine ⟨_, rfl, _, rfl, c, Cc, dx, _, _, rfl, hc, T.clC, T.cLe, cf_l, ll, _, rfl, .inl (sqL hl), _, _, rfl, rfl, _, _, _, rfl, .inl ⟨_, rfl, ?_⟩⟩
        refine ⟨_, rfl, ?_⟩
        rw [el, decide_eq_false he]
        exact iteT ⟨_, rfl, _, rfl, fun d nd => bad d nd⟩
      · refine ⟨_, rfl, _, rfl, c, Cc, dx, _, _, rfl, hc, T.clC, T.cLe, cf_l, ll, _, rfl, .inl (sqL hl), _, _, rfl, rfl, _, _, _, rfl, .inr ⟨_, rfl, ?_⟩⟩
        refine ⟨_, rfl, ?_⟩
        exact iteT ⟨_, rfl, _, rfl, fun d nd => bad d nd⟩
/-! ### deliver -/
abbrev nDel : List Str := ["self", "at", "is_kept", "letter", "sequencer"]
theorem scCnDeliver : FnScope nDel ["self", "at", "is_kept"] (defScope sCnDeliver) := ⟨rfl, rfl, rfl, by decide +kernel, rfl, by decide +kernel, by decide +kernel⟩
/-- letter[0] in ('ask', 'write') -/
theorem word_down (l : Lt) : inV (.str l.word) [.str "ask", .str "write"] = l.down := by
  cases l with
  | ask e n => exact (by decide +kernel : inV (.str "ask") [.str "ask", .str "write"] = true)
  | write e n p x => exact (by decide +kernel : inV (.str "write") [.str "ask", .str "write"] = true)
  | refused e n k => exact (by decide +kernel : inV (.str "refused") [.str "ask", .str "write"] = false)
  | told e n row => exact (by decide +kernel : inV (.str "told") [.str "ask", .str "write"] = false)
  | taken e n p => exact (by decide +kernel : inV (.str "taken") [.str "ask", .str "write"] = false)
theorem ok_cnDeliver {f fW fH fQ : Addr} {fd fdW fdH fdQ : FuncData} (F : Fun K "deliver" "Council.deliver" sCnDeliver f fd) (T : Txt K mg Cr Ck Cs Cc) (TB : PySem.K49X.BadTxt P K mg Cb CE fB)
    (GW : FnOk P w K mg base CX0 1 fW fdW ["thing", "low", "high"] spWhole) (bW : Binds K fdW ["thing", "low", "high"] []) (mW : mg "is_whole" = some (.ref fW)) (kW : PySem.W.keepIn K (.ref fW) = true)
    (GH : FnOk P w K mg base CX0 5 fH fdH ["self", "letter"] (spKpHandle Ck)) (bH : Binds K fdH ["self", "letter"] []) (mH : Meth K Ck "handle" fH)
    (GQ : FnOk P w K mg base CX0 2 fQ fdQ ["self", "letter"] (spSqHear Cs)) (bQ : Binds K fdQ ["self", "letter"] []) (mQ : Meth K Cs "hear" fQ) :
    FnOk P w K mg base (L2.CX P w) 6 f fd ["self", "at", "is_kept"] (spCnDeliver Ck Cs Cc Cb) := by
  refine F.okX scCnDeliver (fun vs H Q E h => ?_) (fun cdv A outer s H vs Q E hr h => ?_)
  · obtain ⟨c, ll, g, p, w, x, kept, m, b, r, rfl, _⟩ := h
    rfl
  · obtain ⟨c, ll, g, p, w, x, kept, m, b, r, rfl, C, hw, ok, hm, hb, how, hx⟩ := h
    obtain ⟨dx, hc⟩ := C.ob
    obtain ⟨vs, hl, hq⟩ := C.le
    have el := hq.length
    have hr1 : Room 1 _ := hr.mono (by decide)
    have hr2 : Room 2 _ := hr.mono (by decide)
    refine ⟨_, pss_cons (ps_if (pt_not (pt_val (pe_call GW hr1 rfl mW kW bW .nil pass0 (pa_cons (pv 1) (pa_cons pe_int (pa_cons (pe_op op_sub (pe_callB call_len_seq (by rfl) T.b.len PySem.boot_len (pa_cons (pe_fld (pv 0) rfl) pa_nil)) pe_int) pa_nil))))))
        (pss_one (ps_raiseBad rfl TB hr (takes_of rfl rfl rfl rfl) (by exact (pa_cons (pv 1) pa_nil)))) pss_nil)
      (pss_cons (ps_set (i := 3) scCnDeliver.nd rfl (Or.inl rfl) (pe_ix ix_list (pe_fld (pv 0) rfl) (pv 1) (fun _ _ => rfl)))
      (pss_cons (ps_if (pt_not (pt_val (pv 2))) (pss_one (ps_expr (pe_bm PySem.F.plainAttrs_list PySem.F.slot_list_pop PySem.F.type_list_pop mt_popAt (pe_fld (pv 0) rfl) (pa_cons (pv 1) pa_nil)))) pss_nil)
      (pss_one (ps_if (pt_cmpR op_in_seq (pe_ix ix_tup (pv 3) pe_int (fun _ _ => rfl)) (pe_tup (pa_cons pe_str (pa_cons pe_str pa_nil))) (by rfl))
        (pss_one (ps_expr (pe_meth (pe_ix ix_list (pe_fld (pv 0) rfl) (pe_ix ix_tup (pv 3) pe_int (fun _ _ => rfl)) (fun _ _ => rfl)) T.clK mH GH hr bH .nil pass0 (pa_cons (pv 3) pa_nil))))
        (pss_one (ps_for (passes_of rfl) rfl (pi_list (pe_fld (pv 0) rfl)) (pg_name (i := 4) scCnDeliver.nd rfl (Or.inl rfl)) (pss_one (ps_expr (pe_meth (pv 4) T.clS mQ GQ hr2 bQ .nil pass0 (pa_cons (pv 3) pa_nil)))))))))), ?_⟩
    rcases hx with ⟨i, l, rfl, hi, kk⟩ | ⟨hx, hE⟩
    · have hil := (List.getElem?_eq_some_iff.mp hi).1
      refine ⟨_, rfl, _, rfl, c, Cc, dx, _, _, rfl, hc, T.clC, T.cLe, cf_l, ll, _, rfl, .inl (sqL hl), _, _, rfl, rfl, _, _, _, rfl, .inl ⟨_, rfl, ?_⟩⟩
      refine ⟨_, rfl, ?_⟩
      rw [decide_eq_true (show (0 : Int) ≤ (i : Int) ∧ (i : Int) ≤ (vs.length : Int) - 1 by omega)]
      obtain ⟨v, hv, hvl⟩ := Pd.get hq hi
      refine iteF ⟨_, rfl, c, Cc, dx, _, _, rfl, hc, T.clC, T.cLe, cf_l, _, rfl, ll, vs, _, v, rfl, rfl, sqL hl, at_of (j := i) rfl hv, ?_⟩
      have lok := how l (List.mem_of_getElem? hi)
      -- from the test of its word on
      have rest : ∀ (H1 : Hp) (w' : List Lt), CnAt Ck Cs Cc H1 c ll g p w' → Kpt (CnMem c ll g) H H1 → CnTo Ck Cs Cc H c ll g (p.bring l) w' (Q .non) →
          tIfS (tTest (tOp (rIn K false) (tOp (rIxT K) (tVar 3) (tC (.int 0))) (tTup (tCons (tC (.str "ask")) (tCons (tC (.str "write")) tNil)))))
            (tDrop (tMeth Ck "handle" (spKpHandle Ck) [] E0 (tOp (rIxL K) (tFld K (tVar 0) "keepers") (tOp (rIxT K) (tVar 3) (tC (.int 2)))) (tCons (tVar 3) tNil)))
            (tFor (iList K (tFld K (tVar 0) "sequencers")) (gName 4) (tDrop (tMeth Cs "hear" (spSqHear Cs) [] E0 (tVar 4) (tCons (tVar 3) tNil))))
            { nx := fun _ H' => Q .non H', rt := Q } [some (.ref c), some (.int i), some (.bl kept), some v, none] H1 := by
        intro H1 w' C1 k1 kk1
        have hv1 := hvl.mono k1.tup
        obtain ⟨t, tr, rfl, ht⟩ := hv1.three
        obtain ⟨dx1, hc1⟩ := C1.ob
        refine ⟨_, rfl, t, _, _, _, rfl, rfl, sqT ht, at0, (by show 2 ≤ sizeLine; exact small (by decide)), fun q nq => ?_⟩
        have k2 : Kpt No H1 (upd H1 q (.tup [.str "ask", .str "write"])) := Kpt.new nq
        have h2 : upd H1 q (.tup [.str "ask", .str "write"]) q = some (.tup [.str "ask", .str "write"]) := upd_same
        have hv2 := hv1.mono k2.tup
        have ht2 := k2.tup _ _ ht
        have hc2 := k2.same _ _ hc1
        have C2 := C1.mono k2 fun _ _ z => z
        have k12 := k1.trans (k2.mono (N := CnMem c ll g) fun _ z => z.elim)
        generalize upd H1 q (.tup [.str "ask", .str "write"]) = H2 at *
        refine ⟨q, _, rfl, .inr (sqT h2), rfl, rfl, _, rfl, ?_⟩
        rw [if_neg Bool.false_ne_true, word_down]
        cases hd : l.down with
        | true =>
          have hn := lok.1
          obtain ⟨k, hk⟩ : ∃ k, p.ks[l.num]? = some k := ⟨p.ks[l.num]'(by rw [ok.len]; exact hn), List.getElem?_eq_getElem (by rw [ok.len]; exact hn)⟩
          obtain ⟨a, ha, q1⟩ := Pd.get C2.sd.kp hk
          obtain ⟨dxk, rk, lk, wk, hok, _⟩ := id q1
          have kok := (ok.num _ _ hk).2
          refine iteT ⟨_, rfl, c, Cc, dx1, _, _, rfl, hc2, T.clC, T.cKe, cf_k, _, rfl, t, _, _, _, rfl, rfl, sqT ht2, at2, g.lk, _, _, .ref a, rfl, rfl, sqL C2.sd.lk, at_of (j := l.num) rfl (by rw [List.getElem?_map, ha]; rfl), a, dxk, _, rfl, hok, by rfl, _, rfl,
            a, k, _, l, rfl, q1, hv2, hd, ?_, ?_, fun H3 q3 k3 => ?_⟩
          · have h1 := kok.size; have h2 : b ≤ 1000 := hb; omega
          · have h1 := kok.wsize; have h2 : b ≤ 1000 := hb; omega
          · have ham := List.mem_of_getElem? ha
            have C3 := C2.side (C2.sd.kpStep ha q3 k3) rfl rfl (fun b hb => .inl hb) k3 fun b hb => .inl (by rw [hb]; exact ham)
            rw [← Sde.at'_some (f := (·.handle l)) hk] at C3
            have e : p.bring l = p.at' l.num (·.handle l) := by unfold Sde.bring; rw [if_pos hd]
            rw [e] at kk1
            exact kk1 g _ C3 (fun b hb => .inl hb) (k12.trans (k3.mono fun b hb => CnMem.of (.inl (by rw [hb]; exact ham))))
        | false =>
          refine iteF ⟨_, rfl, c, Cc, dx1, _, _, rfl, hc2, T.clC, T.cSe, cf_s, g.ls, rfl, ⟨_, sqL C2.sd.ls⟩, hear_all (K := K) (p := p) (l := l) (m := m) (c := r) (fun v' => [some (.ref c), some (.int i), some (.bl kept), some (.ref t), v']) none (fun _ _ => rfl) (fun _ => rfl) (fun _ => rfl) C2.sd hv2 hd ok.sq hm lok fun v' g' H3 e1 e2 e3 S3 mm k3 => ?_⟩
          have C3 := C2.side S3 e1 e2 mm k3 fun b hb => .inr hb
          have e : p.bring l = p.heard l := by unfold Sde.bring; rw [if_neg (by rw [hd]; exact Bool.false_ne_true)]
          rw [e] at kk1
          refine kk1 g' _ C3 (fun b hb => ?_) (k12.trans (k3.mono fun b hb => CnMem.of (.inr hb)))
          rcases CnMem.side e1 e2 e3 mm hb with z | z
          · exact .inl z
          · exact k12.free z
      refine ⟨_, rfl, _, rfl, ?_⟩
      cases kept with
      | true => exact iteF (rest H w C .refl kk)
      | false =>
        refine iteT ⟨_, rfl, c, Cc, dx, _, _, rfl, hc, T.clC, T.cLe, cf_l, .inl ⟨rfl, _, sqL hl⟩, _, rfl, ?_⟩
        refine ⟨ll, vs, _, i, v, rfl, rfl, hl, by omega, by omega, (by rw [seqIndex_of (by omega) (by omega)]; rfl), hv, ?_⟩
        obtain ⟨C3, k3⟩ := C.letters (Pd.erase i hq)
        exact rest _ _ C3 k3 kk
    · have bad : ∀ d : Addr, H d = none → E (.ref Cb) (some d) (upd H d (.xd [(("name" : Str), x)])) := fun d nd => hE d _ (Kpt.new nd) upd_same
      rcases hx with ⟨e, rfl, he⟩ | ⟨z, rfl⟩
      · refine ⟨_, rfl, _, rfl, c, Cc, dx, _, _, rfl, hc, T.clC, T.cLe, cf_l, ll, _, rfl, .inl (sqL hl), _, _, rfl, rfl, _, _, _, rfl, .inl ⟨_, rfl, ?_⟩⟩
        refine ⟨_, rfl, ?_⟩
        rw [el, decide_eq_false he]
        exact iteT ⟨_, rfl, _, rfl, fun d nd => bad d nd⟩
      · refine ⟨_, rfl, _, rfl, c, Cc, dx, _, _, rfl, hc, T.clC, T.cLe, cf_l, ll, _, rfl, .inl (sqL hl), _, _, rfl, rfl, _, _, _, rfl, .inr ⟨_, rfl, ?_⟩⟩
        refine ⟨_, rfl, ?_⟩
        exact iteT ⟨_, rfl, _, rfl, fun d nd => bad d nd⟩
end
end K49

/-! K49C3: councils: made, begin. -/
namespace K49
open PySem PySem.Spec PyProof.Rows L2
section
variable {Ck Cs : Addr} {H : Hp} {g : Sg} {p : Sde}
/-- a sequencer more -/
theorem SdAt.add (S : SdAt Ck Cs H g p) {a : SA} {s : Sq} (q : SqAt Cs H a s) (fr : ∀ b, a.mem b → ¬ g.mem b) :
    SdAt Ck Cs (upd H g.ls (.lst ((g.sas.map fun a => V.ref a.p) ++ [.ref a.p]))) { g with sas := g.sas ++ [a] } { p with ss := p.ss ++ [s] } := by
  have k : Kpt (fun b => b = g.ls) H (upd H g.ls (.lst ((g.sas.map fun a => V.ref a.p) ++ [.ref a.p]))) := Kpt.wr rfl S.ls lst_tup
  have cs : ∀ (j : Nat) (b : SA), (g.sas ++ [a])[j]? = some b → (j = g.sas.length ∧ b = a) ∨ g.sas[j]? = some b := fun j b h => by
    by_cases c : j < g.sas.length
    · rw [List.getElem?_append_left c] at h
      exact .inr h
    · rw [List.getElem?_append_right (by omega)] at h
      have hj := (List.getElem?_eq_some_iff.mp h).1
      have e : j - g.sas.length = 0 := by simp at hj; omega
      rw [e] at h
      exact .inl ⟨by omega, (Option.some.inj h).symm⟩
  have old : ∀ (j : Nat) (b : SA) (x : Addr), g.sas[j]? = some b → b.mem x → ¬ a.mem x := fun j b x hb hx z => fr x z (.inr (.inr (.inr ⟨b, List.mem_of_getElem? hb, hx⟩)))
  refine ⟨by show upd H g.ls _ g.lk = _; rw [upd_ne S.ll]; exact S.lk, ?_, ?_, S.nd, ?_, fun i j x y b h1 h2 hx hy => ?_, S.ll, fun b hb => ?_⟩
  · show upd H g.ls _ g.ls = some (.lst ((g.sas ++ [a]).map fun a => V.ref a.p))
    rw [upd_same, List.map_append]
    rfl
  · exact Pd.ofIx S.kp.length fun j x y h1 h2 => by
      have q1 := Pd.ix S.kp h1 h2
      exact q1.mono k fun z => q1.offL S.ls z.symm
  · refine Pd.app (Pd.ofIx S.sq.length fun j x y h1 h2 => ?_) (.cons (q.mono k fun b hb z => ?_) .nil)
    · have q1 := Pd.ix S.sq h1 h2
      exact q1.mono k fun b hb z => q1.offL S.ls (S.la x (List.mem_of_getElem? h1)).2 (by rw [← z]; exact hb)
    · exact fr b hb (.inr (.inl z))
  · rcases cs i x h1 with ⟨e1, z1⟩ | z1
    · rcases cs j y h2 with ⟨e2, z2⟩ | z2
      · omega
      · rw [z1] at hx; exact absurd hx (old j y b z2 hy)
    · rcases cs j y h2 with ⟨e2, z2⟩ | z2
      · rw [z2] at hy; exact absurd hy (old i x b z1 hx)
      · exact S.dj i j x y b z1 z2 hx hy
  · rcases List.mem_append.mp hb with hb | hb
    · exact S.la b hb
    · rw [List.mem_singleton.mp hb]
      exact ⟨fun z => fr g.lk (by rw [z]; exact .inr (.inr (.inl rfl))) (.inl rfl), fun z => fr g.ls (by rw [z]; exact .inr (.inr (.inl rfl))) (.inr (.inl rfl))⟩
theorem Sg.add_mem {a : SA} {b : Addr} (h : Sg.memS { g with sas := g.sas ++ [a] } b) : g.memS b ∨ a.mem b := by
  obtain ⟨x, hx, hb⟩ := h
  rcases List.mem_append.mp hx with hx | hx
  · exact .inl ⟨x, hx, hb⟩
  · rw [List.mem_singleton.mp hx] at hb
    exact .inr hb
end
theorem inV_ep (e : Int) (l : List Int) : inV (.int e) (l.map V.int) = decide (e ∈ l) := by
  unfold inV
  induction l with
  | nil => rfl
  | cons a l ih =>
    rw [List.map_cons, List.any_cons, ih]
    show ((a == e) || decide (e ∈ l)) = decide (e ∈ a :: l)
    by_cases h : a = e
    · subst h; simp
    · rw [show (a == e) = false from beq_false_of_ne h, Bool.false_or]
      by_cases h2 : e ∈ l
      · rw [decide_eq_true h2, decide_eq_true (List.mem_cons_of_mem _ h2)]
      · rw [decide_eq_false h2, decide_eq_false fun z => by rcases List.mem_cons.mp z with z | z; exact h z.symm; exact h2 z]
theorem flat_ints (l : List Int) : (l.map V.int).all flatV = true := by
  rw [List.all_eq_true]
  intro x hx
  obtain ⟨i, _, rfl⟩ := List.mem_map.mp hx
  rfl
theorem wipe_again {σ : L2.St} {v : Nat} {x : Option V} : ((wipe σ [v]).set v x).set v none = wipe σ [v] := by
  show ((σ.set v none).set v x).set v none = σ.set v none
  rw [List.set_set, List.set_set]
section
variable {P : Program} {w : World} {K : PySem.W.Frag} {mg : Str → Option Value} {base : Heap} {Cr Ck Cs Cc Cb CE fB : Addr}
/-- [one.epoch for one in sequencers] -/
theorem epochs_lc (T : Txt K mg Cr Ck Cs Cc) {H1 : Hp} {σ : L2.St} {v : Nat} {g : Sg} {p : Sde} {D : Addr} {Qd : Hp → Prop} (S : SdAt Ck Cs H1 g p) (hv : v < σ.length) (hz : p.ss.length ≤ 1000) (nD : H1 D = none)
    (kk : ∀ (H' : Hp), H' D = some (.lst ((p.ss.map (·.ep)).map V.int)) → Kpt No H1 H' → Qd H') :
    ∃ W : Nat → Nat → Hp → Prop, (∃ m, W 0 m (upd H1 D (.lst []))) ∧ ∀ i m H, W i m H → ((Itl K g.ls).stop i H ∧ Qd H) ∨
      ((Itl K g.ls).go i H ∧ ∃ Nx : Hp → Prop, (∀ H', Nx H' → ∃ m', m' < m ∧ W (i + 1) m' H') ∧ ∀ x H', (Itl K g.ls).yld i H x H' → gName v x (wipe σ [v]) H' fun σ2 H2 => wipe σ2 [v] = wipe σ [v] ∧ tYes σ2 H2 fun b H3 =>
        if b = true then tFld K (tVar v) "epoch" σ2 H3 fun y H4 => ∃ acc, H4 D = some (.lst acc) ∧ acc.length < sizeLine ∧ Nx (upd H4 D (.lst (acc ++ [y]))) else Nx H3) := by
  have hlen := S.sq.length
  refine lc_list (K := K) (a := g.ls) (xs := g.sas.map fun a => V.ref a.p) (fun j H4 => H4 D = some (.lst (((p.ss.take j).map (·.ep)).map V.int)) ∧ Kpt No H1 H4)
    ⟨upd_same, Kpt.new nD⟩ (fun j H4 _ ⟨_, k4⟩ => sqL (k4.same _ _ S.ls)) (fun j x H4 hx ⟨hD, k4⟩ => ?_) (fun H4 ⟨hD, k4⟩ => ?_)
  · rw [List.getElem?_map] at hx
    obtain ⟨a, ha, rfl⟩ : ∃ a, g.sas[j]? = some a ∧ x = V.ref a.p := by
      cases e : g.sas[j]? with
      | none => rw [e] at hx; cases hx
      | some a => rw [e] at hx; exact ⟨a, rfl, (Option.some.inj hx).symm⟩
    obtain ⟨s, hs, q⟩ := Pd.getL S.sq ha
    obtain ⟨dx, hp⟩ := q.ob
    have hp4 := k4.same _ _ hp
    refine ⟨wipe_again, yes ⟨_, ?_, a.p, Cs, dx, _, _, rfl, hp4, T.clS, T.sEp, sf_ep, _, hD, ?_, ?_, k4.up nD⟩⟩
    · exact List.getElem?_set_self (by rw [wipe_length]; exact hv)
    · rw [List.length_map, List.length_map, List.length_take]
      exact smallT (by omega)
    · rw [upd_same, take_snoc hs, List.map_append, List.map_append]
      rfl
  · rw [List.length_map, hlen, List.take_length] at hD
    exact kk H4 hD k4
/-- [Keeper(number) for number in range(many)] -/
theorem keepers_lc {H1 : Hp} {σ : L2.St} {v m : Nat} {D : Addr} {Qd : Hp → Prop} (hv : v < σ.length) (hm : m ≤ 1000) (nD : H1 D = none)
    (kk : ∀ (kas : List Addr) (H' : Hp), H' D = some (.lst (kas.map V.ref)) → Paired (KpAt Ck H') kas ((List.range m).map Kp.new) → kas.Nodup → (∀ a ∈ kas, H1 a = none) → Kpt No H1 H' → Qd H') :
    ∃ W : Nat → Nat → Hp → Prop, (∃ m, W 0 m (upd H1 D (.lst []))) ∧ ∀ i mm H, W i mm H → ((Itr 0 m).stop i H ∧ Qd H) ∨
      ((Itr 0 m).go i H ∧ ∃ Nx : Hp → Prop, (∀ H', Nx H' → ∃ m', m' < mm ∧ W (i + 1) m' H') ∧ ∀ x H', (Itr 0 m).yld i H x H' → gName v x (wipe σ [v]) H' fun σ2 H2 => wipe σ2 [v] = wipe σ [v] ∧ tYes σ2 H2 fun b H3 =>
        if b = true then tMake Ck (spKpInit Ck) [] E0 (tCons (tVar v) tNil) σ2 H3 fun y H4 => ∃ acc, H4 D = some (.lst acc) ∧ acc.length < sizeLine ∧ Nx (upd H4 D (.lst (acc ++ [y]))) else Nx H3) := by
  refine lc_range (lo := 0) (n := m) (fun j H4 => ∃ kas : List Addr, H4 D = some (.lst (kas.map V.ref)) ∧ Paired (KpAt Ck H4) kas ((List.range j).map Kp.new) ∧ kas.Nodup ∧ (∀ a ∈ kas, H1 a = none) ∧ Kpt No H1 H4)
    ⟨[], upd_same, .nil, .nil, fun a h => (nomatch h), Kpt.new nD⟩ (fun j H4 hj ⟨kas, hD, hp, hnd, hfr, k4⟩ => ?_) (fun H4 ⟨kas, hD, hp, hnd, hfr, k4⟩ => kk kas H4 hD hp hnd hfr k4)
  rw [Int.zero_add]
  refine ⟨wipe_again, yes ⟨_, List.getElem?_set_self (by rw [wipe_length]; exact hv), fun x dx nx ndx nex => ?_⟩⟩
  have k5 : Kpt No H4 (upd (upd H4 dx (.own x)) x (.ins Ck dx [])) := by
    have s1 : Kpt No H4 (upd H4 dx (.own x)) := Kpt.new ndx
    exact s1.trans (Kpt.new (by rw [upd_ne nex.symm]; exact nx))
  refine ⟨x, dx, j, rfl, upd_same, fun H5 q5 k6 => ⟨rfl, ?_⟩⟩
  have k46 : Kpt No H4 H5 := k5.then (k6.mono (N := fun b => b = x) fun _ z => z) fun c z => .inr (by rw [z]; exact nx)
  have hD5 := k46.same _ _ hD
  have hl : kas.length = j := by rw [hp.length, List.length_map, List.length_range]
  refine ⟨_, hD5, by rw [List.length_map, hl]; exact smallT (by omega), kas ++ [x], ?_, ?_, ?_, ?_, (k4.trans k46).up nD⟩
  · rw [upd_same, List.map_append]; rfl
  · have k7 : Kpt (fun b => b = D) H5 (upd H5 D (.lst (kas.map V.ref ++ [.ref x]))) := Kpt.wr rfl hD5 lst_tup
    rw [List.range_succ, List.map_append]
    refine Pd.app (Pd.ofIx hp.length fun i a k h1 h2 => ?_) (.cons (q5.mono k7 fun z => (q5.offL hD5) z.symm) .nil)
    have q1 := (Pd.ix hp h1 h2).mono k46 fun z => z
    exact q1.mono k7 fun z => (q1.offL hD5) z.symm
  · refine List.nodup_append.mpr ⟨hnd, List.nodup_cons.mpr ⟨by simp, .nil⟩, fun a ha b hb e => ?_⟩
    rw [List.mem_singleton.mp hb] at e
    obtain ⟨k, _, q⟩ := Pd.mem hp (e ▸ ha)
    exact q.there nx
  · intro a ha
    rcases List.mem_append.mp ha with ha | ha
    · exact hfr a ha
    · rw [List.mem_singleton.mp ha]
      exact k4.same.free nx
end
end K49

/-! K49C4: Council.__init__, begin. -/
namespace K49
open PySem PySem.Spec PyProof.Rows L2
def spCnInit (Ck Cs Cc : Addr) : Sp := fun vs H Q _ => ∃ (c dx : Addr) (m : Nat), vs = [.ref c, .int m] ∧ H c = some (.ins Cc dx []) ∧ m ≤ 1000 ∧
  ∀ (ll : Addr) (g : Sg) (H' : Hp), CnAt Ck Cs Cc H' c ll g ⟨(List.range m).map Kp.new, []⟩ [] → (∀ b, CnMem c ll g b → b = c ∨ H b = none) → Kpt (fun b => b = c) H H' → Q .non H'
theorem cf_pl {k s a : Addr} : putF "letters" (.ref a) [(("keepers" : Str), V.ref k), (("sequencers" : Str), V.ref s)] = cf k s a := by rfl
section
variable {P : Program} {w : World} {K : PySem.W.Frag} {mg : Str → Option Value} {base : Heap} {Cr Ck Cs Cc Cb CE fB : Addr}
abbrev nCnInit : List Str := ["self", "many", "number"]
theorem scCnInit : FnScope nCnInit ["self", "many"] (defScope sCnInit) := ⟨rfl, rfl, rfl, by decide +kernel, rfl, by decide +kernel, by decide +kernel⟩
theorem ok_cnInit {f fI : Addr} {fd fdI : FuncData} (F : Fun K "__init__" "Council.__init__" sCnInit f fd) (T : Txt K mg Cr Ck Cs Cc) (GI : FnOk P w K mg base CX0 1 fI fdI ["self", "number"] (spKpInit Ck)) (bI : Binds K fdI ["self", "number"] []) (MI : Mk K Ck fI) :
    FnOk P w K mg base CX0 3 f fd ["self", "many"] (spCnInit Ck Cs Cc) := by
  refine F.ok scCnInit (fun vs H Q E h => ?_) (fun cdv A outer s H vs Q E hr h => ?_)
  · obtain ⟨p, dx, m, rfl, _⟩ := h
    rfl
  · obtain ⟨p, dx, m, rfl, hp, hm, kk⟩ := h
    refine ⟨_, pss_cons (ps_fld (pv 0) (pe_lc (own := [("number", 2)]) (g := gName 2) (tt := tYes) (te := tMake Ck (spKpInit Ck) [] E0 (tCons (tVar 2) tNil)) rfl scCnInit.nd
        (pi_range1 rfl T.b.range (pa_cons (pv 1) pa_nil)) (blkOk_by (N := nCnInit) (sc := defScope sCnInit) (by decide +kernel)) (fun _ _ _ _ _ => pg_name (i := 2) scCnInit.nd rfl (Or.inl rfl)) (fun _ _ _ _ _ => pts_nil)
        (fun _ _ _ _ _ => pe_make MI GI hr rfl T.mK bI .nil pass0 (pa_cons (pv 2) pa_nil))) rfl)
      (pss_cons (ps_fld (pv 0) (pe_lst pa_nil) rfl) (pss_one (ps_fld (pv 0) (pe_lst pa_nil) rfl))), ?_⟩
    have en : ((m : Nat) : Int).toNat = m := Int.toNat_natCast _
    refine ⟨_, rfl, _, rfl, by omega, by omega, ?_⟩
    rw [en]
    refine fun D nD => keepers_lc (σ := [some (.ref p), some (.int m), none]) (v := 2) (m := m) (Nat.lt_succ_self 2) hm nD fun kas H1 hD hk hnd hfr k1 => ?_
    have hp1 := k1.same _ _ hp
    refine ⟨_, rfl, p, Cc, dx, [], rfl, hp1, T.clC, T.cKe, (by show 0 < 1000; decide), ?_⟩
    have kp2 : ∀ a ∈ kas, p ≠ a := fun a ha => ne_of_none hp (hfr a ha)
    have k2 : Kpt (fun b => b = p) H1 (upd H1 p (.ins Cc dx (putF "keepers" (.ref D) []))) := Kpt.wr rfl hp1 ins_tup
    have hp2 : upd H1 p (.ins Cc dx (putF "keepers" (.ref D) [])) p = some (.ins Cc dx [("keepers", .ref D)]) := upd_ins rfl
    have hpD : p ≠ D := ne_of_none hp nD
    have hk2 := Pd.ofIx hk.length fun i a k h1 h2 => (Pd.ix hk h1 h2).mono k2 fun z => kp2 a (List.mem_of_getElem? h1) z.symm
    have hD2 := k2.keep _ _ hD fun z => hpD z.symm
    have k12 := (k1.mono (N := fun b => b = p) fun _ z => z.elim).trans k2
    generalize upd H1 p (.ins Cc dx (putF "keepers" (.ref D) [])) = H2 at *
    refine ⟨(by show 0 ≤ sizeLine; exact Nat.zero_le _), fun ls nls => ?_⟩
    have e3 : upd H2 ls (.lst []) p = some (.ins Cc dx [("keepers", .ref D)]) := by rw [upd_ne (ne_of_none hp2 nls)]; exact hp2
    refine ⟨_, rfl, p, Cc, dx, _, rfl, e3, T.clC, T.cSe, (by show 1 < 1000; decide), ?_⟩
    have k3 : Kpt (fun b => b = p) H2 (upd H2 ls (.lst [])) := Kpt.new nls
    have k4 : Kpt (fun b => b = p) (upd H2 ls (.lst [])) (upd (upd H2 ls (.lst [])) p (.ins Cc dx (putF "sequencers" (.ref ls) [("keepers", .ref D)]))) := Kpt.wr rfl e3 ins_tup
    have hp4 : upd (upd H2 ls (.lst [])) p (.ins Cc dx (putF "sequencers" (.ref ls) [("keepers", .ref D)])) p = some (.ins Cc dx [("keepers", .ref D), ("sequencers", .ref ls)]) := upd_ins rfl
    have hpls : p ≠ ls := ne_of_none hp2 nls
    have hDls : D ≠ ls := ne_of_none hD2 nls
    have k34 := k3.trans k4
    have hD4 := k34.keep _ _ hD2 fun z => hpD z.symm
    have hls4 : upd (upd H2 ls (.lst [])) p (.ins Cc dx (putF "sequencers" (.ref ls) [("keepers", .ref D)])) ls = some (.lst []) := by rw [upd_ne hpls.symm]; exact upd_same
    have hk4 := Pd.ofIx hk2.length fun i a k h1 h2 => (Pd.ix hk2 h1 h2).mono k34 fun z => kp2 a (List.mem_of_getElem? h1) z.symm
    have k14 := k12.trans k34
    have fls : H ls = none := by
      rcases k12.free nls with z | z
      · exact absurd z.symm hpls
      · exact z
    generalize upd (upd H2 ls (.lst [])) p (.ins Cc dx (putF "sequencers" (.ref ls) [("keepers", .ref D)])) = H4 at *
    refine ⟨(by show 0 ≤ sizeLine; exact Nat.zero_le _), fun ll nll => ?_⟩
    have e5 : upd H4 ll (.lst []) p = some (.ins Cc dx [("keepers", .ref D), ("sequencers", .ref ls)]) := by rw [upd_ne (ne_of_none hp4 nll)]; exact hp4
    refine ⟨_, rfl, p, Cc, dx, _, rfl, e5, T.clC, T.cLe, (by show 2 < 1000; decide), ?_⟩
    have k5 : Kpt (fun b => b = p) H4 (upd H4 ll (.lst [])) := Kpt.new nll
    have k6 : Kpt (fun b => b = p) (upd H4 ll (.lst [])) (upd (upd H4 ll (.lst [])) p (.ins Cc dx (putF "letters" (.ref ll) [("keepers", .ref D), ("sequencers", .ref ls)]))) := Kpt.wr rfl e5 ins_tup
    have hpll : p ≠ ll := ne_of_none hp4 nll
    have hDll : D ≠ ll := ne_of_none hD4 nll
    have hsll : ls ≠ ll := ne_of_none hls4 nll
    have k56 := k5.trans k6
    have fll : H ll = none := by
      rcases k14.free nll with z | z
      · exact absurd z.symm hpll
      · exact z
    refine kk ll ⟨D, ls, kas, []⟩ _ ⟨⟨dx, upd_ins cf_pl⟩, ⟨k56.keep _ _ hD4 fun z => hpD z.symm, k56.keep _ _ hls4 fun z => hpls z.symm, ?_, hnd, .nil, fun i j a b x h => (by simp at h), hDls, fun a ha => (nomatch ha)⟩, ⟨[], by rw [upd_ne hpll.symm]; exact upd_same, .nil⟩, hDll.symm, hsll.symm, fun a ha => (nomatch ha)⟩ (fun b hb => ?_) (k14.trans k56)
    · exact Pd.ofIx hk4.length fun i a k h1 h2 => (Pd.ix hk4 h1 h2).mono k56 fun z => kp2 a (List.mem_of_getElem? h1) z.symm
    · rcases hb with rfl | rfl | rfl | rfl | hb | ⟨a, ha, _⟩
      · exact .inl rfl
      · exact .inr fll
      · exact .inr nD
      · exact .inr fls
      · exact .inr (hfr b hb)
      · exact nomatch ha
/-! ### begin -/
abbrev nBegin : List Str := ["self", "epoch", "one"]
theorem scCnBegin : FnScope nBegin ["self", "epoch"] (defScope sCnBegin) := ⟨rfl, rfl, rfl, by decide +kernel, rfl, by decide +kernel, by decide +kernel⟩
theorem ok_cnBegin {f fW fI : Addr} {fd fdW fdI : FuncData} (F : Fun K "begin" "Council.begin" sCnBegin f fd) (T : Txt K mg Cr Ck Cs Cc) (TB : PySem.K49X.BadTxt P K mg Cb CE fB)
    (GW : FnOk P w K mg base CX0 1 fW fdW ["thing", "low", "high"] spWhole) (bW : Binds K fdW ["thing", "low", "high"] []) (mW : mg "is_whole" = some (.ref fW)) (kW : PySem.W.keepIn K (.ref fW) = true)
    (GI : FnOk P w K mg base CX0 1 fI fdI ["self", "epoch", "many"] (spSqInit Cs)) (bI : Binds K fdI ["self", "epoch", "many"] []) (MI : Mk K Cs fI) :
    FnOk P w K mg base (L2.CX P w) 3 f fd ["self", "epoch"] (spCnBegin Ck Cs Cc Cb) := by
  refine F.okX scCnBegin (fun vs H Q E h => ?_) (fun cdv A outer s H vs Q E hr h => ?_)
  · obtain ⟨c, ll, g, p, w, x, rfl, _⟩ := h
    rfl
  · obtain ⟨c, ll, g, p, w, x, rfl, C, hks, hss, hx⟩ := h
    obtain ⟨dx, hc⟩ := C.ob
    obtain ⟨tM, hM⟩ := T.most
    have hr1 : Room 1 _ := hr.mono (by decide)
    have hkl := C.sd.kp.length
    have hsl := C.sd.sq.length
    refine ⟨_, pss_cons (ps_if (PW.pt (pw_or (pt_not (pt_val (pe_call GW hr1 rfl mW kW bW .nil pass0 (pa_cons (pv 1) (pa_cons pe_int (pa_cons (pe_glob (v := .int 999999999999) rfl hM ⟨_, rfl⟩) pa_nil))))))
          (pw_or1 (pt_cmpR op_in_seq (pv 1) (pe_lc (own := [("one", 2)]) (g := gName 2) (tt := tYes) (te := tFld K (tVar 2) "epoch") rfl scCnBegin.nd (pi_list (pe_fld (pv 0) rfl)) (blkOk_by (N := nBegin) (sc := defScope sCnBegin) (by decide +kernel))
            (fun _ _ _ _ _ => pg_name (i := 2) scCnBegin.nd rfl (Or.inl rfl)) (fun _ _ _ _ _ => pts_nil) (fun _ _ _ _ _ => pe_fld (pv 2) rfl)) (by rfl)))))
        (pss_one (ps_raiseBad rfl TB hr (takes_of rfl rfl rfl rfl) (by exact (pa_cons (pv 1) pa_nil)))) pss_nil)
      (pss_cons (ps_expr (pe_bm PySem.F.plainAttrs_list PySem.F.slot_list_append PySem.F.type_list_append mt_append (pe_fld (pv 0) rfl) (pa_cons
        (pe_make MI GI hr rfl T.mS bI .nil pass0 (pa_cons (pv 1) (pa_cons (pe_callB call_len_seq (by rfl) T.b.len PySem.boot_len (pa_cons (pe_fld (pv 0) rfl) pa_nil)) pa_nil))) pa_nil)))
      (pss_one (ps_ret (pe_op op_sub (pe_callB call_len_seq (by rfl) T.b.len PySem.boot_len (pa_cons (pe_fld (pv 0) rfl) pa_nil)) pe_int)))), ?_⟩
    rcases hx with ⟨e, rfl, he, hne, kk⟩ | ⟨hx, hE⟩
    · refine ⟨_, rfl, _, _, _, rfl, .inl ⟨_, rfl, ?_⟩⟩
      refine ⟨_, rfl, ?_⟩
      rw [decide_eq_true he]
      refine iteF ⟨_, rfl, _, rfl, c, Cc, dx, _, _, rfl, hc, T.clC, T.cSe, cf_s, g.ls, rfl, ⟨_, sqL C.sd.ls⟩, ?_⟩
      refine fun D nD => epochs_lc (K := K) (σ := [some (.ref c), some (.int e), none]) (v := 2) T C.sd (Nat.lt_succ_self 2) hss nD fun H1 hD k1 => ?_
      refine ⟨D, _, rfl, .inl (sqL hD), rfl, flat_ints _, _, rfl, ?_⟩
      rw [if_neg Bool.false_ne_true, inV_ep, decide_eq_false hne]
      have C1 := C.mono k1 fun _ _ z => z
      have hc1 := k1.same _ _ hc
      refine iteF ⟨_, rfl, c, Cc, dx, _, _, rfl, hc1, T.clC, T.cSe, cf_s, .inl ⟨rfl, _, sqL C1.sd.ls⟩, _, rfl, _, rfl, c, Cc, dx, _, _, rfl, hc1, T.clC, T.cKe, cf_k, g.lk, _, rfl, .inl (sqL C1.sd.lk), fun x dx2 nx ndx nex => ?_⟩
      have k2 : Kpt No H1 (upd (upd H1 dx2 (.own x)) x (.ins Cs dx2 [])) := by
        have s1 : Kpt No H1 (upd H1 dx2 (.own x)) := Kpt.new ndx
        exact s1.trans (Kpt.new (by rw [upd_ne nex.symm]; exact nx))
      refine ⟨x, dx2, e, p.ks.length, (by rw [List.length_map, hkl]; rfl), upd_same, by omega, fun a H3 ea S3 mm3 k3 => ⟨rfl, ?_⟩⟩
      subst ea
      have k13 : Kpt No H1 H3 := k2.then (k3.mono (N := fun b => b = a.p) fun _ z => z) fun b z => .inr (by rw [z]; exact nx)
      have C3 := C1.mono k13 fun _ _ z => z
      have fr : ∀ b, a.mem b → H1 b = none := fun b hb => by
        rcases mm3 b hb with z | z
        · rw [z]; exact nx
        · exact k2.same.free z
      have frg : ∀ b, a.mem b → ¬ CnMem c ll g b := fun b hb z => C1.there z (fr b hb)
      refine ⟨g.ls, _, _, rfl, rfl, C3.sd.ls, by rw [List.length_map]; exact smallT (by omega), ?_⟩
      have S4 := C3.sd.add S3 fun b hb z => frg b hb (.inr (.inr z))
      have k4 : Kpt (CnMem c ll g) H3 (upd H3 g.ls (.lst ((g.sas.map fun a => V.ref a.p) ++ [.ref a.p]))) := Kpt.wr (.inr (.inr (.inr (.inl rfl)))) C3.sd.ls lst_tup
      have hc4 : upd H3 g.ls (.lst ((g.sas.map fun a => V.ref a.p) ++ [.ref a.p])) c = some (.ins Cc dx (cf g.lk g.ls ll)) := by
        have z := k13.same _ _ hc1
        rw [upd_ne (ne_of z C3.sd.ls (by intro z; cases z))]
        exact z
      obtain ⟨vl, hl3, hq3⟩ := C3.le
      have hl4 : upd H3 g.ls (.lst ((g.sas.map fun a => V.ref a.p) ++ [.ref a.p])) ll = some (.lst vl) := by rw [upd_ne C.ns]; exact hl3
      have hq4 := Pd.mono (fun _ _ z => LtV.mono k4.tup z) hq3
      have k04 : Kpt (CnMem c ll g) H (upd H3 g.ls (.lst ((g.sas.map fun a => V.ref a.p) ++ [.ref a.p]))) := ((k1.trans k13).mono (N := CnMem c ll g) fun _ z => z.elim).trans k4
      generalize upd H3 g.ls (.lst ((g.sas.map fun a => V.ref a.p) ++ [.ref a.p])) = H4 at *
      have C4 : CnAt Ck Cs Cc H4 c ll { g with sas := g.sas ++ [a] } { p with ss := p.ss ++ [.new e p.ks.length] } w := ⟨⟨dx, hc4⟩, S4, ⟨vl, hl4, hq4⟩, C.nk, C.ns, fun b hb => by
        rcases List.mem_append.mp hb with hb | hb
        · exact C.na b hb
        · rw [List.mem_singleton.mp hb]
          exact fun z => frg ll (by rw [z]; exact .inr (.inr (.inl rfl))) (.inr (.inl rfl))⟩
      refine ⟨_, rfl, c, Cc, dx, _, _, rfl, hc4, T.clC, T.cSe, cf_s, g.ls, _, rfl, .inl (sqL C4.sd.ls), _, _, rfl, rfl, ?_⟩
      have ee : (((g.sas ++ [a]).map fun a => V.ref a.p).length : Int) - 1 = ((p.ss.length : Nat) : Int) := by
        rw [List.length_map, List.length_append, hsl]
        show ((p.ss.length + 1 : Nat) : Int) - 1 = _
        omega
      have kq := kk { g with sas := g.sas ++ [a] } H4 C4 (fun b hb => ?_) k04
      · rw [← ee] at kq
        exact kq
      · rcases hb with hb | hb | hb | hb | hb | hb
        · exact .inl (.inl hb)
        · exact .inl (.inr (.inl hb))
        · exact .inl (.inr (.inr (.inl hb)))
        · exact .inl (.inr (.inr (.inr (.inl hb))))
        · exact .inl (.inr (.inr (.inr (.inr (.inl hb)))))
        · rcases Sg.add_mem hb with hb | hb
          · exact .inl (.inr (.inr (.inr (.inr (.inr hb)))))
          · exact .inr (k1.same.free (fr b hb))
    · rcases hx with ⟨e, rfl, he⟩ | ⟨z, rfl⟩
      · refine ⟨_, rfl, _, _, _, rfl, .inl ⟨_, rfl, ?_⟩⟩
        refine ⟨_, rfl, ?_⟩
        by_cases h : 0 ≤ e ∧ e ≤ 999999999999
        · have hin : e ∈ p.ss.map (·.ep) := he.resolve_left fun z => z h
          rw [decide_eq_true h]
          refine iteF ⟨_, rfl, _, rfl, c, Cc, dx, _, _, rfl, hc, T.clC, T.cSe, cf_s, g.ls, rfl, ⟨_, sqL C.sd.ls⟩, ?_⟩
          refine fun D nD => epochs_lc (K := K) (σ := [some (.ref c), some (.int e), none]) (v := 2) T C.sd (Nat.lt_succ_self 2) hss nD fun H1 hD k1 => ?_
          refine ⟨D, _, rfl, .inl (sqL hD), rfl, flat_ints _, _, rfl, ?_⟩
          rw [if_neg Bool.false_ne_true, inV_ep, decide_eq_true hin]
          exact iteT ⟨_, rfl, _, rfl, fun d nd => hE d _ (k1.trans (Kpt.new nd)) upd_same⟩
        · rw [decide_eq_false h]
          exact iteT (iteT ⟨_, rfl, _, rfl, fun d nd => hE d _ (Kpt.new nd) upd_same⟩)
      · refine ⟨_, rfl, _, _, _, rfl, .inr ⟨_, rfl, ?_⟩⟩
        refine ⟨_, rfl, ?_⟩
        exact iteT (iteT ⟨_, rfl, _, rfl, fun d nd => hE d _ (Kpt.new nd) upd_same⟩)
end
end K49

/-! K49C5: a sequencer's letters are given to some keepers; their answers are heard: the two loops; Council.exchange. -/
namespace K49
open PySem PySem.Spec PyProof.Rows L2
theorem inV_nat (n : Nat) (l : List Nat) : inV (.int (n : Int)) (l.map fun n : Nat => V.int (n : Int)) = decide (n ∈ l) := by
  have h := inV_ep (n : Int) (l.map fun n : Nat => (n : Int))
  rw [List.map_map] at h
  have e : (V.int ∘ fun n : Nat => (n : Int)) = fun n : Nat => V.int (n : Int) := rfl
  rw [e] at h
  rw [h]
  by_cases c : n ∈ l
  · rw [decide_eq_true c, decide_eq_true (List.mem_map.mpr ⟨n, c, rfl⟩)]
  · rw [decide_eq_false c, decide_eq_false fun z => by
      obtain ⟨i, hi, e⟩ := List.mem_map.mp z
      have e2 : i = n := by omega
      exact c (e2 ▸ hi)]
theorem flat_nats (l : List Nat) : (l.map fun n : Nat => V.int (n : Int)).all flatV = true := by
  rw [List.all_eq_true]
  intro x hx
  obtain ⟨i, _, rfl⟩ := List.mem_map.mp hx
  rfl
/-- the places that a side's deeds write at -/
def Wm (g : Sg) (b : Addr) : Prop := b ∈ g.kas ∨ g.memS b
/-- g' is g but for its sequencers' places -/
structure Gr (H : Hp) (g g' : Sg) : Prop where
  lk : g'.lk = g.lk
  ls : g'.ls = g.ls
  kas : g'.kas = g.kas
  mem : ∀ b, Wm g' b → Wm g b ∨ H b = none
theorem Gr.refl {H : Hp} {g : Sg} : Gr H g g := ⟨rfl, rfl, rfl, fun _ h => .inl h⟩
theorem Gr.trans {H H1 : Hp} {g g1 g2 : Sg} (a : Gr H g g1) (k : Kpt (Wm g) H H1) (b : Gr H1 g1 g2) : Gr H g g2 := ⟨b.lk.trans a.lk, b.ls.trans a.ls, b.kas.trans a.kas, fun x h => by
  rcases b.mem x h with z | z
  · exact a.mem x z
  · exact k.free z⟩
theorem Gr.of {H : Hp} {g g1 : Sg} (e1 : g1.lk = g.lk) (e2 : g1.ls = g.ls) (e3 : g1.kas = g.kas) (mm : ∀ b, g1.memS b → g.memS b ∨ H b = none) : Gr H g g1 := ⟨e1, e2, e3, fun x h => by
  rcases h with h | h
  · exact .inl (.inl (by rw [← e3]; exact h))
  · rcases mm x h with z | z
    · exact .inl (.inr z)
    · exact .inr z⟩
theorem Gr.then {H H1 H2 : Hp} {g g1 : Sg} (a : Gr H g g1) (k : Kpt (Wm g) H H1) (k2 : Kpt (Wm g1) H1 H2) : Kpt (Wm g) H H2 := k.then k2 a.mem
section
variable {Ck Cs Cc : Addr} {H H' : Hp} {c ll : Addr} {g g' : Sg} {p p' : Sde} {w : List Lt}
theorem CnAt.gr (C : CnAt Ck Cs Cc H c ll g p w) (S : SdAt Ck Cs H' g' p') (r : Gr H g g') (k : Kpt (Wm g) H H') : CnAt Ck Cs Cc H' c ll g' p' w := by
  obtain ⟨dx, e⟩ := C.ob
  obtain ⟨vs, el, hq⟩ := C.le
  refine ⟨⟨dx, by rw [r.lk, r.ls]; exact k.keep _ _ e C.c_off⟩, S, ⟨vs, k.keep _ _ el C.l_off, Pd.mono (fun _ _ z => LtV.mono k.tup z) hq⟩, by rw [r.lk]; exact C.nk, by rw [r.ls]; exact C.ns, fun a ha z => ?_⟩
  rcases r.mem ll (.inr ⟨a, ha, .inr (.inr (.inl z))⟩) with y | y
  · exact C.l_off y
  · rw [el] at y; cases y
theorem CnMem.gr (r : Gr H g g') {b : Addr} (h : CnMem c ll g' b) : CnMem c ll g b ∨ H b = none := by
  rcases h with h | h | h | h | h
  · exact .inl (.inl h)
  · exact .inl (.inr (.inl h))
  · exact .inl (.inr (.inr (.inl (by rw [← r.lk]; exact h))))
  · exact .inl (.inr (.inr (.inr (.inl (by rw [← r.ls]; exact h)))))
  · rcases r.mem b h with z | z
    · exact .inl (CnMem.of z)
    · exact .inr z
end
section
variable {K : PySem.W.Frag} {Ck Cs : Addr} {D : Ends} {H : Hp} {g : Sg} {p : Sde}
/-- for letter in letters: if letter[2] in up: keepers[letter[2]].handle(letter) -/
theorem give_all {t ua : Addr} {vs : List V} {w : List Lt} {up : List Nat} {m b c j u : Nat} {tK : TE} (f : Option V → L2.St) (v0 : Option V) (fs : ∀ v x, (f v).set j (some x) = f (some x)) (fg : ∀ x, (f (some x))[j]? = some (some x)) (fu : ∀ v, (f v)[u]? = some (some (.ref ua)))
    (hK : ∀ (v : Option V) (H' : Hp) (Q : VK), Kpt (Wm g) H H' → Q (.ref g.lk) H' → tK (f v) H' Q)
    (S : SdAt Ck Cs H g p) (ht : H t = some (.tup vs)) (hw : Paired (LtV H) vs w) (hua : H ua = some (.lst (up.map fun n : Nat => .int (n : Int)))) (nua : ¬ Wm g ua) (ok : SdeOk m b c p) (hb : b + w.length ≤ rowTop) (hlw : ∀ l ∈ w, LtOk m l ∧ l.down = true)
    (kk : ∀ (v : Option V) (H' : Hp), SdAt Ck Cs H' g (w.foldl (Sde.give up) p) → Kpt (Wm g) H H' → D.nx (f v) H') :
    ∃ W : Nat → Nat → L2.St → Hp → Prop, (∃ m, W 0 m (f v0) H) ∧ ∀ i' m s H, W i' m s H → ((Itt K t).stop i' H ∧ D.nx s H) ∨
      ((Itt K t).go i' H ∧ ∃ N : L2.St → Hp → Prop, (∀ s' H', N s' H' → ∃ m', m' < m ∧ W (i' + 1) m' s' H') ∧ ∀ x H', (Itt K t).yld i' H x H' →
        gName j x s H' fun s2 H2 => tIfS (tTest (tOp (rIn K false) (tOp (rIxT K) (tVar j) (tC (.int 2))) (tVar u)))
          (tDrop (tMeth Ck "handle" (spKpHandle Ck) [] E0 (tOp (rIxL K) tK (tOp (rIxT K) (tVar j) (tC (.int 2)))) (tCons (tVar j) tNil))) tNext { D with nx := N, ct := N, bk := D.nx } s2 H2) := by
  have hlen := hw.length
  refine for_tup (K := K) (a := t) (xs := vs) (fun n s H1 => ∃ v : Option V, s = f v ∧ SdAt Ck Cs H1 g ((w.take n).foldl (Sde.give up) p) ∧ Kpt (Wm g) H H1)
    ⟨v0, rfl, S, .refl⟩ (fun n s H1 _ ⟨_, _, _, k1⟩ => sqT (k1.tup _ _ ht)) ?_ ?_
  · rintro n x s H1 hx ⟨v, rfl, S1, k1⟩
    obtain ⟨l, hl, hxl⟩ := Pd.getL hw hx
    have hlm := hlw l (List.mem_of_getElem? hl)
    have hnl := (List.getElem?_eq_some_iff.mp hl).1
    have hx1 := hxl.mono k1.tup
    obtain ⟨tx, tr, rfl, htx⟩ := hx1.three
    show tIfS _ _ _ _ ((f v).set j (some (.ref tx))) H1
    rw [fs]
    refine ⟨_, fg _, tx, _, _, _, rfl, rfl, sqT htx, at2, _, fu _, ua, _, rfl, .inl (sqL (k1.keep _ _ hua nua)), rfl, flat_nats _, _, rfl, ?_⟩
    rw [if_neg Bool.false_ne_true, inV_nat]
    have e : ((w.take (n + 1)).foldl (Sde.give up) p) = Sde.give up ((w.take n).foldl (Sde.give up) p) l := by rw [take_snoc hl, List.foldl_append]; rfl
    by_cases cu : l.num ∈ up
    · rw [decide_eq_true cu]
      have ok1 := ok.gives up (w.take n) (by rw [List.length_take]; omega)
      obtain ⟨k, hk⟩ : ∃ k, ((w.take n).foldl (Sde.give up) p).ks[l.num]? = some k := ⟨_, List.getElem?_eq_getElem (by rw [ok1.len]; exact hlm.1.1)⟩
      obtain ⟨a, ha, q1⟩ := Pd.get S1.kp hk
      obtain ⟨dxk, rk, lk, wk, hok, _⟩ := id q1
      have kok := (ok1.num _ _ hk).2
      have hb2 : (w.take n).length ≤ w.length := by rw [List.length_take]; omega
      have hrt : rowTop = 1000 := rfl
      have ham := List.mem_of_getElem? ha
      refine iteT (hK _ _ _ k1 ⟨_, fg _, tx, _, _, _, rfl, rfl, sqT htx, at2, g.lk, _, _, .ref a, rfl, rfl, sqL S1.lk, at_of (j := l.num) rfl (by rw [List.getElem?_map, ha]; rfl), a, dxk, _, rfl, hok, by rfl, _, fg _,
        a, k, _, l, rfl, q1, hx1, hlm.2, ?_, ?_, fun H3 q3 k3 => ⟨_, rfl, ?_, k1.trans (k3.mono fun b hb => .inl (by rw [hb]; exact ham))⟩⟩)
      · have := kok.size; omega
      · have := kok.wsize; omega
      · rw [e]
        have S3 := S1.kpStep ha q3 k3
        rw [← Sde.at'_some (f := (·.handle l)) hk] at S3
        unfold Sde.give
        rw [if_pos cu]
        exact S3
    · rw [decide_eq_false cu]
      refine iteF ⟨_, rfl, ?_, k1⟩
      rw [e]
      unfold Sde.give
      rw [if_neg cu]
      exact S1
  · rintro s H1 ⟨v, rfl, S1, k1⟩
    rw [hlen, List.take_length] at S1
    exact kk v H1 S1 k1
/-- for keeper in up: for answer in keepers[keeper].flush(): (the answer is heard) -/
theorem reply_all {ua : Addr} {up : List Nat} {m b c j4 j5 : Nat} {tK : TE} {tb : TS} (F : Option V → Option V → Option V → L2.St) (f4 : ∀ a b c x, (F a b c).set j4 (some x) = F (some x) b c) (f5 : ∀ a b c x, (F a b c).set j5 (some x) = F a (some x) c)
    (fg : ∀ x b c, (F (some x) b c)[j4]? = some (some x)) (u4 u5 u6 : Option V)
    (hK : ∀ (a b c : Option V) (H' : Hp) (Q : VK), Kpt (Wm g) H H' → Q (.ref g.lk) H' → tK (F a b c) H' Q)
    (hB : ∀ (D : Ends) (v4 lv : V) (v6 : Option V) (l : Lt) (g1 : Sg) (p1 : Sde) (H1 : Hp), Gr H g g1 → Kpt (Wm g) H H1 → SdAt Ck Cs H1 g1 p1 → LtV H1 lv l → AnsOk m l → SdeOk m b c p1 →
      (∀ (v6' : Option V) (g2 : Sg) (H2 : Hp), Gr H1 g1 g2 → Kpt (Wm g1) H1 H2 → SdAt Ck Cs H2 g2 (p1.heard l) → D.nx (F (some v4) (some lv) v6') H2) → tb D (F (some v4) (some lv) v6) H1)
    (S : SdAt Ck Cs H g p) (hua : H ua = some (.lst (up.map fun n : Nat => .int (n : Int)))) (nua : ¬ Wm g ua) (ok : SdeOk m b c p) (hb : b ≤ rowTop) (hup : ∀ n ∈ up, n < m)
    (kk : ∀ (a b c : Option V) (g' : Sg) (H' : Hp), Gr H g g' → Kpt (Wm g) H H' → SdAt Ck Cs H' g' (up.foldl Sde.reply p) → D.nx (F a b c) H') :
    ∃ W : Nat → Nat → L2.St → Hp → Prop, (∃ m, W 0 m (F u4 u5 u6) H) ∧ ∀ i' m s H, W i' m s H → ((Itl K ua).stop i' H ∧ D.nx s H) ∨
      ((Itl K ua).go i' H ∧ ∃ N : L2.St → Hp → Prop, (∀ s' H', N s' H' → ∃ m', m' < m ∧ W (i' + 1) m' s' H') ∧ ∀ x H', (Itl K ua).yld i' H x H' →
        gName j4 x s H' fun s2 H2 => tFor (iTup K (tMeth Ck "flush" (spKpFlush Ck) [] E0 (tOp (rIxL K) tK (tVar j4)) tNil)) (gName j5) tb { D with nx := N, ct := N, bk := D.nx } s2 H2) := by
  have hrt : rowTop = 1000 := rfl
  refine for_list (K := K) (a := ua) (xs := up.map fun n : Nat => V.int (n : Int)) (fun n s H1 => ∃ (a b c : Option V) (g1 : Sg), s = F a b c ∧ Gr H g g1 ∧ SdAt Ck Cs H1 g1 ((up.take n).foldl Sde.reply p) ∧ Kpt (Wm g) H H1)
    ⟨u4, u5, u6, g, rfl, .refl, S, .refl⟩ (fun n s H1 _ ⟨_, _, _, _, _, _, _, k1⟩ => sqL (k1.keep _ _ hua nua)) ?_ ?_
  · rintro n x s H1 hx ⟨v4, v5, v6, g1, rfl, r1, S1, k1⟩
    rw [List.getElem?_map] at hx
    obtain ⟨i, hi, rfl⟩ : ∃ i, up[n]? = some i ∧ x = V.int (i : Nat) := by
      cases e : up[n]? with
      | none => rw [e] at hx; cases hx
      | some i => rw [e] at hx; exact ⟨i, rfl, (Option.some.inj hx).symm⟩
    have ok1 := ok.replies (up.take n)
    have him := hup i (List.mem_of_getElem? hi)
    obtain ⟨k, hk⟩ : ∃ k, ((up.take n).foldl Sde.reply p).ks[i]? = some k := ⟨_, List.getElem?_eq_getElem (by rw [ok1.len]; exact him)⟩
    obtain ⟨a, ha, q1⟩ := Pd.get S1.kp hk
    obtain ⟨dxk, rk, lk, wk, hok, _⟩ := id q1
    have kok := (ok1.num _ _ hk).2
    have ham := List.mem_of_getElem? ha
    have e : ((up.take (n + 1)).foldl Sde.reply p) = k.wait.foldl Sde.heard (((up.take n).foldl Sde.reply p).at' i Kp.flush) := by
      have ew : Sde.waitOf ((up.take n).foldl Sde.reply p) i = k.wait := by unfold Sde.waitOf; rw [hk]
      rw [take_snoc hi, List.foldl_append, ← ew]; rfl
    show tFor _ _ _ _ ((F v4 v5 v6).set j4 (some (.int (i : Nat)))) H1
    rw [f4]
    rw [e]
    clear e
    generalize (up.take n).foldl Sde.reply p = p1 at *
    have hlk1 : H1 g.lk = some (.lst (g1.kas.map V.ref)) := by rw [← r1.lk]; exact S1.lk
    refine hK _ _ _ _ _ k1 ⟨_, fg _ _ _, g.lk, _, _, .ref a, rfl, rfl, sqL hlk1, at_of (j := i) rfl (by rw [List.getElem?_map, ha]; rfl), a, dxk, _, rfl, hok, by rfl,
      a, k, rfl, q1, (by have := kok.size; omega), fun wv H2 hwv q2 k2 => ?_⟩
    have S2 := S1.kpStep ha q2 k2
    rw [← Sde.at'_some hk] at S2
    have ok2 := ok1.flush i
    have hwa := kok.wait
    have k2' : Kpt (Wm g1) H1 H2 := k2.mono fun b hb => .inl (by rw [hb]; exact ham)
    have k12 := r1.then k1 k2'
    generalize p1.at' i Kp.flush = p2 at *
    obtain ⟨t, vs, rfl, ht, hq⟩ := hwv
    refine ⟨t, rfl, ⟨_, sqT ht⟩, for_tup (K := K) (a := t) (xs := vs) (fun n s H3 => ∃ (b c : Option V) (g3 : Sg), s = F (some (.int (i : Nat))) b c ∧ Gr H g g3 ∧ SdAt Ck Cs H3 g3 ((k.wait.take n).foldl Sde.heard p2) ∧ Kpt (Wm g) H H3 ∧ TupS H2 H3)
      ⟨v5, v6, g1, rfl, r1, S2, k12, fun _ _ h => h⟩ (fun n s H3 _ ⟨_, _, _, _, _, _, _, ts⟩ => sqT (ts _ _ ht)) ?_ ?_⟩
    · rintro n' lv s H3 hlv ⟨b', c', g3, rfl, r3, S3, k3, ts⟩
      obtain ⟨l, hl, hvl⟩ := Pd.getL hq hlv
      show tb _ ((F (some (.int (i : Nat))) b' c').set j5 (some lv)) H3
      rw [f5]
      have ok3 : SdeOk m b c ((k.wait.take n').foldl Sde.heard p2) := ok2.heards fun x hx => hwa x (List.mem_of_mem_take hx)
      refine hB _ _ _ _ l g3 _ H3 r3 k3 S3 (hvl.mono ts) (hwa l (List.mem_of_getElem? hl)) ok3 fun v6' g4 H4 r4 k4 S4 => ?_
      refine ⟨_, _, g4, rfl, r3.trans k3 r4, ?_, r3.then k3 k4, fun b xs h => k4.tup _ _ (ts b xs h)⟩
      rw [take_snoc hl, List.foldl_append]
      exact S4
    · rintro s H3 ⟨b', c', g3, rfl, r3, S3, k3, ts⟩
      rw [hq.length, List.take_length] at S3
      exact ⟨_, _, _, g3, rfl, r3, S3, k3⟩
  · rintro s H1 ⟨v4, v5, v6, g1, rfl, r1, S1, k1⟩
    rw [List.length_map, List.take_length] at S1
    exact kk _ _ _ g1 H1 r1 k1 S1
end
/-! ### Council.exchange -/
def spCnExch (Ck Cs Cc : Addr) : Sp := fun vs H Q _ => ∃ (c ll : Addr) (g : Sg) (p : Sde) (w : List Lt) (i : Nat) (s : Sq) (ua : Addr) (up : List Nat) (m b r : Nat), vs = [.ref c, .int i, .ref ua] ∧ CnAt Ck Cs Cc H c ll g p w ∧ p.ss[i]? = some s ∧ SdeOk m b r p ∧ m ≤ 60 ∧ b + m ≤ rowTop ∧
  H ua = some (.lst (up.map fun n : Nat => .int (n : Int))) ∧ ¬ CnMem c ll g ua ∧ (∀ n ∈ up, n < m) ∧
  CnTo Ck Cs Cc H c ll g (p.exch s up) w (Q .non)
section
variable {P : Program} {w : World} {K : PySem.W.Frag} {mg : Str → Option Value} {base : Heap} {Cr Ck Cs Cc Cb CE fB : Addr}
abbrev nExch : List Str := ["self", "number", "up", "letter", "keeper", "answer", "sequencer"]
theorem scCnExch : FnScope nExch ["self", "number", "up"] (defScope sCnExch) := ⟨rfl, rfl, rfl, by decide +kernel, rfl, by decide +kernel, by decide +kernel⟩
theorem ok_cnExch {f fH fQ fS fF : Addr} {fd fdH fdQ fdS fdF : FuncData} (F : Fun K "exchange" "Council.exchange" sCnExch f fd) (T : Txt K mg Cr Ck Cs Cc)
    (GS : FnOk P w K mg base CX0 1 fS fdS ["self"] (spSqSend Cs)) (bS : Binds K fdS ["self"] []) (mS : Meth K Cs "to_send" fS)
    (GF : FnOk P w K mg base CX0 1 fF fdF ["self"] (spKpFlush Ck)) (bF : Binds K fdF ["self"] []) (mF : Meth K Ck "flush" fF)
    (GH : FnOk P w K mg base CX0 5 fH fdH ["self", "letter"] (spKpHandle Ck)) (bH : Binds K fdH ["self", "letter"] []) (mH : Meth K Ck "handle" fH)
    (GQ : FnOk P w K mg base CX0 2 fQ fdQ ["self", "letter"] (spSqHear Cs)) (bQ : Binds K fdQ ["self", "letter"] []) (mQ : Meth K Cs "hear" fQ) :
    FnOk P w K mg base CX0 6 f fd ["self", "number", "up"] (spCnExch Ck Cs Cc) := by
  refine F.ok scCnExch (fun vs H Q E h => ?_) (fun cdv A outer s H vs Q E hr h => ?_)
  · obtain ⟨c, ll, g, p, w, i, s, ua, up, m, b, r, rfl, _⟩ := h
    rfl
  · obtain ⟨c, ll, g, p, w, i, s, ua, up, m, b, r, rfl, C, hs, ok, hm, hb, hua, nua, hup, kk⟩ := h
    obtain ⟨dx, hc⟩ := C.ob
    obtain ⟨a, ha, q⟩ := Pd.get C.sd.sq hs
    obtain ⟨dx2, ho⟩ := q.ob
    have hr1 : Room 1 _ := hr.mono (by decide)
    have hr2 : Room 2 _ := hr.mono (by decide)
    refine ⟨_, pss_cons (ps_for PassesOwn.never rfl (pi_tup (pe_meth0 (pe_ix ix_list (pe_fld (pv 0) rfl) (pv 1) (fun _ _ => rfl)) T.clS mS GS hr1 bS .nil pass0)) (pg_name (i := 3) scCnExch.nd rfl (Or.inl rfl))
        (pss_one (ps_if (pt_cmpR op_in_seq (pe_ix ix_tup (pv 3) pe_int (fun _ _ => rfl)) (pv 2) (by rfl))
          (pss_one (ps_expr (pe_meth (pe_ix ix_list (pe_fld (pv 0) rfl) (pe_ix ix_tup (pv 3) pe_int (fun _ _ => rfl)) (fun _ _ => rfl)) T.clK mH GH hr bH .nil pass0 (pa_cons (pv 3) pa_nil)))) pss_nil)))
      (pss_one (ps_for PassesOwn.never rfl (pi_list (pv 2)) (pg_name (i := 4) scCnExch.nd rfl (Or.inl rfl))
        (pss_one (ps_for PassesOwn.never rfl (pi_tup (pe_meth0 (pe_ix ix_list (pe_fld (pv 0) rfl) (pv 4) (fun _ _ => rfl)) T.clK mF GF hr1 bF .nil pass0)) (pg_name (i := 5) scCnExch.nd rfl (Or.inl rfl))
          (pss_one (ps_for PassesOwn.never rfl (pi_list (pe_fld (pv 0) rfl)) (pg_name (i := 6) scCnExch.nd rfl (Or.inl rfl)) (pss_one (ps_expr (pe_meth (pv 6) T.clS mQ GQ hr2 bQ .nil pass0 (pa_cons (pv 5) pa_nil)))))))))), ?_⟩
    have sok := ok.sq s (List.mem_of_getElem? hs)
    have hts := toSend_ok sok
    refine ⟨_, rfl, c, Cc, dx, _, _, rfl, hc, T.clC, T.cSe, cf_s, _, rfl, g.ls, _, _, .ref a.p, rfl, rfl, sqL C.sd.ls, at_of (j := i) rfl (by rw [List.getElem?_map, ha]; rfl),
      a.p, dx2, _, rfl, ho, by rfl, a, s, rfl, q, by rw [sok.many]; exact hm, by rw [sok.tk, sok.many], fun v H1 hv k1 => ?_⟩
    obtain ⟨t, us, rfl, ht, hu⟩ := hv
    have C1 := C.mono k1 fun _ _ z => z
    have hc1 := k1.same _ _ hc
    have hua1 := k1.same _ _ hua
    have nua1 : ¬ Wm g ua := fun z => nua (CnMem.of z)
    refine ⟨t, rfl, ⟨_, sqT ht⟩, ?_⟩
    refine give_all (K := K) (Cs := Cs) (g := g) (p := p) (w := s.toSend) (up := up) (m := m) (b := b) (c := r) (fun v => [some (.ref c), some (.int i), some (.ref ua), v, none, none, none]) none (fun _ _ => rfl) (fun _ => rfl) (fun _ => rfl)
      (fun v H' Q k hq => ⟨_, rfl, c, Cc, dx, _, _, rfl, k.keep _ _ hc1 C1.c_off, T.clC, T.cKe, cf_k, hq⟩) C1.sd ht hu hua1 nua1 ok (by omega) hts.2 fun v3 H2 S2 k2 => ?_
    have ok2 := ok.gives up s.toSend (by omega)
    have C2 := C1.gr S2 .refl k2
    have hc2 := k2.keep _ _ hc1 C1.c_off
    have hua2 := k2.keep _ _ hua1 nua1
    refine ⟨_, rfl, ua, rfl, ⟨_, sqL hua2⟩, ?_⟩
    refine reply_all (K := K) (g := g) (up := up) (m := m) (b := b + s.toSend.length) (c := r) (fun v4 v5 v6 => [some (.ref c), some (.int i), some (.ref ua), v3, v4, v5, v6]) (fun _ _ _ _ => rfl) (fun _ _ _ _ => rfl) (fun _ _ _ => rfl) none none none
      (fun _ _ _ H' Q k hq => ⟨_, rfl, c, Cc, dx, _, _, rfl, k.keep _ _ hc2 C2.c_off, T.clC, T.cKe, cf_k, hq⟩) ?_ S2 hua2 nua1 ok2 (by omega) hup fun v4 v5 v6 g3 H3 r3 k3 S3 => ?_
    · intro D v4 lv v6 l g1 p1 H3 r1 k3 S3 hlv hans ok3 kn
      have hc3 := k3.keep _ _ hc2 C2.c_off
      rw [← r1.ls, ← r1.lk] at hc3
      refine ⟨_, rfl, c, Cc, dx, _, _, rfl, hc3, T.clC, T.cSe, cf_s, g1.ls, rfl, ⟨_, sqL S3.ls⟩, ?_⟩
      exact hear_all (K := K) (p := p1) (l := l) (m := m) (c := r) (fun v' => [some (.ref c), some (.int i), some (.ref ua), v3, some v4, some lv, v']) v6 (fun _ _ => rfl) (fun _ => rfl) (fun _ => rfl) S3 hlv hans.2 ok3.sq hm hans.1 fun v' g' H4 e1 e2 e3 S4 mm k4 =>
        kn v' g' H4 (Gr.of e1 e2 e3 mm) (k4.mono fun b hb => .inr hb) S4
    · have C3 := C2.gr S3 r3 k3
      have k13 : Kpt (CnMem c ll g) H H3 := ((k1.mono (N := CnMem c ll g) fun _ z => z.elim).trans (k2.mono fun b hb => CnMem.of hb)).trans (k3.mono fun b hb => CnMem.of hb)
      refine kk g3 H3 C3 (fun b hb => ?_) k13
      rcases CnMem.gr r3 hb with z | z
      · exact .inl z
      · exact ((k1.mono (N := CnMem c ll g) fun _ z => z.elim).trans (k2.mono fun b hb => CnMem.of hb)).free z
end
end K49

/-! K49H1: the law's draws: number, take, pick; bring. -/
namespace K49
open PySem PySem.Spec PyProof.Rows L2
abbrev sNumber : Stmt := top 22
abbrev sTake : Stmt := top 23
abbrev sPick : Stmt := top 24
abbrev sLooks : Stmt := top 25
abbrev sBring : Stmt := top 26
abbrev sBars : Stmt := top 27
abbrev sLaw : Stmt := top 28
def spNum (K : PySem.W.Frag) : Sp := fun vs H Q _ => ∃ (sa : Addr) (k : Int) (ns : List Int), vs = [.ref sa, .int k] ∧ 0 ≤ k ∧ SqL K H sa (ns.map V.int) ∧ ∀ (z : Int) (H' : Hp), 0 ≤ z → Kpt No H H' → Q (.int z) H'
/-- the script: frozen, or no heap's -/
def SqF (K : PySem.W.Frag) (H : Hp) (sa : Addr) (xs : List V) : Prop := (∃ o, H sa = some (.frz o (.lst xs))) ∨ ∀ H' : Hp, SqL K H' sa xs
theorem SqF.sq {K : PySem.W.Frag} {H : Hp} {sa : Addr} {xs : List V} (h : SqF K H sa xs) : SqL K H sa xs := h.elim (fun h => .inl (.inr h)) fun h => h H
theorem SqF.keep {K : PySem.W.Frag} {H H' : Hp} {sa : Addr} {xs : List V} {M : Addr → Prop} (k : Kpt M H H') (h : SqF K H sa xs) (hf : ∀ b, M b → ∀ o u, H b ≠ some (.frz o u)) : SqF K H' sa xs := by
  rcases h with ⟨o, h⟩ | h
  · exact .inl ⟨o, k.keep _ _ h fun z => hf _ z o _ h⟩
  · exact .inr h
/-- the draw: the script, how many were drawn -/
structure DrAt (K : PySem.W.Frag) (H : Hp) (da : Addr) : Prop where
  ex : ∃ (sa : Addr) (k : Int) (ns : List Int), H da = some (.lst [.ref sa, .int k]) ∧ 0 ≤ k ∧ SqF K H sa (ns.map V.int)
theorem DrAt.keep {K : PySem.W.Frag} {H H' : Hp} {da : Addr} {M : Addr → Prop} (D : DrAt K H da) (k : Kpt M H H') (hd : ¬ M da) (hf : ∀ b, M b → ∀ o u, H b ≠ some (.frz o u)) : DrAt K H' da := by
  obtain ⟨sa, n, ns, h, h0, hs⟩ := D.ex
  exact ⟨sa, n, ns, k.keep _ _ h hd, h0, hs.keep k hf⟩
def spTake (K : PySem.W.Frag) : Sp := fun vs H Q _ => ∃ (da : Addr) (m : Int), vs = [.ref da, .int m] ∧ 0 < m ∧ DrAt K H da ∧ ∀ (z : Nat) (H' : Hp), (z : Int) < m → DrAt K H' da → Kpt (fun b => b = da) H H' → Q (.int z) H'
def spPick (K : PySem.W.Frag) : Sp := fun vs H Q _ => ∃ (da a : Addr) (xs : List V), vs = [.ref da, .ref a] ∧ xs ≠ [] ∧ H a = some (.lst xs) ∧ a ≠ da ∧ DrAt K H da ∧ ∀ (x : V) (H' : Hp), x ∈ xs → DrAt K H' da → Kpt (fun b => b = da) H H' → Q x H'
section
variable {K : PySem.W.Frag} {H H' : Hp} {da sa : Addr} {ns : List Int}
theorem seq_new {o : HO} {M : Addr → Prop} (k : Kpt M H H') (h : SqL K H sa (ns.map V.int)) (hM : ∀ b, M b → H b = none ∨ ∃ x xs, H b = some (.lst (.ref x :: xs))) : SqL K H' sa (ns.map V.int) := by
  rcases h with (h | ⟨o, h⟩) | h
  · refine .inl (.inl (k.keep _ _ h fun z => ?_))
    rcases hM _ z with y | ⟨x, xs, y⟩
    · rw [y] at h; cases h
    · rw [y] at h
      have e := HO.lst.inj (Option.some.inj h)
      cases ns with
      | nil => cases e
      | cons n r => cases e
  · refine .inl (.inr ⟨o, k.keep _ _ h fun z => ?_⟩)
    rcases hM _ z with y | ⟨x, xs, y⟩
    · rw [y] at h; cases h
    · rw [y] at h; cases h
  · exact .inr h
theorem DrAt.there (D : DrAt K H da) : H da ≠ none := by
  obtain ⟨sa, k, ns, h, _⟩ := D.ex
  rw [h]; exact fun z => by cases z
end
section
variable {P : Program} {w : World} {K : PySem.W.Frag} {mg : Str → Option Value} {base : Heap} {Cr Ck Cs Cc Cb CE fB : Addr}
abbrev nNum : List Str := ["_law_script", "_law_index", "_law_cell", "_law_blend"]
theorem scNum : FnScope nNum ["_law_script", "_law_index"] (defScope sNumber) := ⟨rfl, rfl, rfl, by decide +kernel, rfl, by decide +kernel, by decide +kernel⟩
theorem ok_num {f : Addr} {fd : FuncData} (F : Fun K "_law_number" "_law_number" sNumber f fd) (B : Blt mg) : FnOk P w K mg base CX0 1 f fd ["_law_script", "_law_index"] (spNum K) := by
  refine F.ok scNum (fun vs H Q E h => ?_) (fun cdv A outer s H vs Q E hr h => ?_)
  · obtain ⟨sa, k, ns, rfl, _⟩ := h
    rfl
  · obtain ⟨sa, k, ns, rfl, hk, hS, kk⟩ := h
    refine ⟨_, pss_cons (ps_if (pt_cmpR (op_eqNil hr.units) (pv 0) (pe_lst pa_nil) (nomark _)) (pss_one (ps_ret (pe_callTy call_int1 (by rfl) B.int (by decide +kernel) (pa_cons (pe_op op_mod (pe_op op_add (pe_op op_mul (pv 1) pe_int) pe_int) pe_int) pa_nil)))) pss_nil)
      (pss_cons (ps_set (i := 2) scNum.nd rfl (Or.inl rfl) (pe_ix ix_list (pv 0) (pe_op op_mod (pv 1) (pe_callB call_len_seq (by rfl) B.len PySem.boot_len (pa_cons (pv 0) pa_nil))) (fun _ _ => rfl)))
      (pss_cons (ps_if (pt_cmpR op_ge (pe_callB call_abs (by rfl) B.abs (by decide +kernel) (pa_cons (pv 2) pa_nil)) (pe_op op_pow pe_int pe_int) (nomark _)) (pss_one (ps_set (i := 2) scNum.nd rfl (Or.inl rfl) (pe_op op_mod (pv 2) (pe_op op_pow pe_int pe_int)))) pss_nil)
      (pss_cons (ps_set (i := 3) scNum.nd rfl (Or.inl rfl) (pe_op op_mod (pe_op op_add (pe_op op_mul (pe_op op_add (pv 2) (pe_op op_mul pe_int (pv 1))) pe_int) (pe_op op_mul pe_int (pe_callB call_len_seq (by rfl) B.len PySem.boot_len (pa_cons (pv 0) pa_nil)))) pe_int))
      (pss_one (ps_ret (pe_callTy call_int1 (by rfl) B.int (by decide +kernel) (pa_cons (pe_op op_mod (pe_op op_add (pe_op op_mul (pe_op op_mod (pe_op op_mul (pv 3) pe_int) pe_int) pe_int) (pv 1)) pe_int) pa_nil))))))), ?_⟩
    refine ⟨_, rfl, (by show 0 ≤ sizeLine; exact Nat.zero_le _), fun q nq => ?_⟩
    have k1 : Kpt No H (upd H q (.lst [])) := Kpt.new nq
    have hS1 := seq_new (o := .lst []) k1 hS fun _ z => z.elim
    refine ⟨sa, q, _, rfl, rfl, hS1, sqL upd_same, _, rfl, ?_⟩
    generalize upd H q (.lst []) = H1 at *
    cases ns with
    | nil =>
      refine iteT ⟨_, rfl, k, _, rfl, rfl, .inr ⟨by decide, by decide⟩, _, _, rfl, rfl, _, _, rfl, rfl, (by decide : (0 : Int) < 2147483647), .inl ⟨_, rfl, ?_⟩⟩
      exact kk _ _ (Int.emod_nonneg _ (by decide)) k1
    | cons n ns =>
      have hl : ((((n :: ns).map V.int).length : Nat) : Int) = ((ns.length + 1 : Nat) : Int) := by rw [List.length_map]; rfl
      have h0 : (0 : Int) < ((ns.length + 1 : Nat) : Int) := by omega
      have hm0 := Int.emod_nonneg k (Int.ne_of_gt h0)
      have hm1 := Int.emod_lt_of_pos k h0
      obtain ⟨x, hx⟩ : ∃ x, (n :: ns)[(k % ((ns.length + 1 : Nat) : Int)).toNat]? = some x := ⟨_, List.getElem?_eq_getElem (by show _ < ns.length + 1; omega)⟩
      refine iteF ⟨_, rfl, _, rfl, _, rfl, sa, _, rfl, .inl hS1, _, _, rfl, rfl, (by rw [hl]; exact h0), sa, _, _, .int x, rfl, rfl, hS1, at_of (j := (k % ((ns.length + 1 : Nat) : Int)).toNat) (by rw [hl]; omega) (by rw [List.getElem?_map, hx]; rfl), ?_⟩
      have fin : ∀ (y : Int), tSeq (tAsg (tOp (rI (fun _ j => 0 < j) fun i j => .int (i % j)) (tOp (rI0 fun i j => .int (i + j)) (tOp (rI CMul fun i j => .int (i * j)) (tOp (rI0 fun i j => .int (i + j)) (tVar 2) (tOp (rI CMul fun i j => .int (i * j)) (tC (.int 977)) (tVar 1))) (tC (.int 48271)))
            (tOp (rI CMul fun i j => .int (i * j)) (tC (.int 31)) (tCB (fun xs H Q => ∃ p ys, xs = [.ref p] ∧ (SqL K H p ys ∨ SqT K H p ys) ∧ Q (.int ys.length) H) (tCons (tVar 0) tNil)))) (tC (.int 2147483647))) (gName 3))
          (tRet (tCB (fun xs H Q => (∃ i, xs = [.int i] ∧ Q (.int i) H) ∨ ∃ k, xs = [.bl k] ∧ Q (.int (if k then 1 else 0)) H) (tCons (tOp (rI (fun _ j => 0 < j) fun i j => .int (i % j)) (tOp (rI0 fun i j => .int (i + j)) (tOp (rI CMul fun i j => .int (i * j))
            (tOp (rI (fun _ j => 0 < j) fun i j => .int (i % j)) (tOp (rI CMul fun i j => .int (i * j)) (tVar 3) (tC (.int 69621))) (tC (.int 2147483629))) (tC (.int 16807))) (tVar 1)) (tC (.int 2147483587))) tNil)))
          { nx := fun _ H' => Q .non H', rt := Q } [some (.ref sa), some (.int k), some (.int y), none] H1 := fun y => by
        refine ⟨_, rfl, _, rfl, _, _, rfl, rfl, .inl ⟨by decide, by decide⟩, _, _, rfl, rfl, _, _, rfl, rfl, .inr ⟨by decide, by decide⟩, _, rfl, sa, _, rfl, .inl hS1, _, _, rfl, rfl, .inl ⟨by decide, by decide⟩, _, _, rfl, rfl, _, _, rfl, rfl, (by decide : (0 : Int) < 2147483647), ?_⟩
        refine ⟨_, rfl, _, _, rfl, rfl, .inr ⟨by decide, by decide⟩, _, _, rfl, rfl, (by decide : (0 : Int) < 2147483629), _, _, rfl, rfl, .inr ⟨by decide, by decide⟩, _, rfl, _, _, rfl, rfl, _, _, rfl, rfl, (by decide : (0 : Int) < 2147483587), .inl ⟨_, rfl, ?_⟩⟩
        exact kk _ _ (Int.emod_nonneg _ (by decide)) k1
      refine ⟨_, rfl, _, rfl, _, _, rfl, rfl, ⟨by decide, by decide, by decide⟩, _, _, rfl, rfl, _, rfl, ?_⟩
      refine ite2 (fun _ => ?_) fun _ => ?_
      · exact ⟨_, rfl, _, _, rfl, rfl, ⟨by decide, by decide, by decide⟩, _, _, rfl, rfl, (by decide : (0 : Int) < 10 ^ 18), fin _⟩
      · exact fin _
abbrev nTake : List Str := ["_law_draw", "_law_many"]
theorem scTake : FnScope nTake ["_law_draw", "_law_many"] (defScope sTake) := ⟨rfl, rfl, rfl, by decide +kernel, rfl, by decide +kernel, by decide +kernel⟩
theorem ok_take {f fN : Addr} {fd fdN : FuncData} (F : Fun K "_law_take" "_law_take" sTake f fd) (B : Blt mg) (GN : FnOk P w K mg base CX0 1 fN fdN ["_law_script", "_law_index"] (spNum K)) (bN : Binds K fdN ["_law_script", "_law_index"] []) (mN : mg "_law_number" = some (.ref fN)) (kN : PySem.W.keepIn K (.ref fN) = true) :
    FnOk P w K mg base CX0 2 f fd ["_law_draw", "_law_many"] (spTake K) := by
  refine F.ok scTake (fun vs H Q E h => ?_) (fun cdv A outer s H vs Q E hr h => ?_)
  · obtain ⟨da, m, rfl, _⟩ := h
    rfl
  · obtain ⟨da, m, rfl, hm, ⟨sa, k, ns, hd, hk, hS⟩, kk⟩ := h
    refine ⟨_, pss_cons (ps_augS (pv 0) pe_int get_list pe_int ip_add set_list)
      (pss_one (ps_ret (pe_op op_mod (pe_callTy call_int1 (by rfl) B.int (by decide +kernel) (pa_cons (pe_call GN hr rfl mN kN bN .nil pass0 (pa_cons (pe_ix ix_list (pv 0) pe_int (fun _ _ => rfl)) (pa_cons
        (pe_callTy call_int1 (by rfl) B.int (by decide +kernel) (pa_cons (pe_ix ix_list (pv 0) pe_int (fun _ _ => rfl)) pa_nil)) pa_nil))) pa_nil)) (pv 1)))), ?_⟩
    refine ⟨_, rfl, da, _, 1, .int k, rfl, rfl, by decide, by decide, hd, rfl, _, _, rfl, rfl, da, _, 1, 1, rfl, rfl, hd, rfl, ?_⟩
    have k1 : Kpt (fun b => b = da) H (upd H da (.lst ([V.ref sa, V.int k].set 1 (V.int ((fun i j => i + j) k 1))))) := Kpt.wr rfl hd lst_tup
    have hd1 : upd H da (.lst ([V.ref sa, V.int k].set 1 (V.int ((fun i j => i + j) k 1)))) da = some (.lst [.ref sa, .int (k + 1)]) := upd_same
    have hS1 := hS.keep k1 fun b z o u q => by rw [z, hd] at q; cases q
    generalize upd H da (.lst ([V.ref sa, V.int k].set 1 (V.int ((fun i j => i + j) k 1)))) = H1 at *
    refine ⟨_, rfl, da, _, _, _, rfl, rfl, sqL hd1, at0, _, rfl, da, _, _, _, rfl, rfl, sqL hd1, at1, .inl ⟨_, rfl, ?_⟩⟩
    refine ⟨sa, k + 1, ns, rfl, by omega, hS1.sq, fun z H2 hz k2 => .inl ⟨_, rfl, ?_⟩⟩
    refine ⟨_, rfl, _, _, rfl, rfl, hm, ?_⟩
    have h0 := Int.emod_nonneg z (Int.ne_of_gt hm)
    have h1 := Int.emod_lt_of_pos z hm
    have q := kk (z % m).toNat H2 (by omega) ⟨sa, k + 1, ns, k2.same _ _ hd1, by omega, hS1.keep k2 fun _ z => z.elim⟩ (k1.trans (k2.mono fun _ z => z.elim))
    rw [show (((z % m).toNat : Nat) : Int) = z % m by omega] at q
    exact q
abbrev nPick : List Str := ["_law_draw", "_law_items"]
theorem scPick : FnScope nPick ["_law_draw", "_law_items"] (defScope sPick) := ⟨rfl, rfl, rfl, by decide +kernel, rfl, by decide +kernel, by decide +kernel⟩
theorem ok_pick {f fN : Addr} {fd fdN : FuncData} (F : Fun K "_law_pick" "_law_pick" sPick f fd) (B : Blt mg) (GN : FnOk P w K mg base CX0 2 fN fdN ["_law_draw", "_law_many"] (spTake K)) (bN : Binds K fdN ["_law_draw", "_law_many"] []) (mN : mg "_law_take" = some (.ref fN)) (kN : PySem.W.keepIn K (.ref fN) = true) :
    FnOk P w K mg base CX0 3 f fd ["_law_draw", "_law_items"] (spPick K) := by
  refine F.ok scPick (fun vs H Q E h => ?_) (fun cdv A outer s H vs Q E hr h => ?_)
  · obtain ⟨da, a, xs, rfl, _⟩ := h
    rfl
  · obtain ⟨da, a, xs, rfl, hne, ha, nad, hd, kk⟩ := h
    have hl : 0 < xs.length := List.length_pos_iff.mpr hne
    refine ⟨_, pss_one (ps_ret (pe_ix ix_list (pv 1) (pe_call GN hr rfl mN kN bN .nil pass0 (pa_cons (pv 0) (pa_cons (pe_callB call_len_seq (by rfl) B.len PySem.boot_len (pa_cons (pv 1) pa_nil)) pa_nil))) (fun _ _ => rfl))), ?_⟩
    refine ⟨_, rfl, _, rfl, _, rfl, a, xs, rfl, .inl (sqL ha), da, _, rfl, by omega, hd, fun z H1 hz hd1 k1 => ?_⟩
    obtain ⟨x, hx⟩ : ∃ x, xs[z]? = some x := ⟨_, List.getElem?_eq_getElem (by omega)⟩
    refine ⟨a, xs, _, x, rfl, rfl, sqL (k1.keep _ _ ha fun y => nad y), at_of (j := z) rfl hx, ?_⟩
    exact kk x H1 (List.mem_of_getElem? hx) hd1 k1
/-! ### bring -/
def spBring (Ck Cs : Addr) : Sp := fun vs H Q _ => ∃ (g : Sg) (p : Sde) (lv : V) (l : Lt) (m b r : Nat), vs = [.ref g.lk, .ref g.ls, lv] ∧ SdAt Ck Cs H g p ∧ LtV H lv l ∧ LtOk m l ∧ SdeOk m b r p ∧ m ≤ 60 ∧ b ≤ rowTop ∧
  ∀ (g' : Sg) (H' : Hp), Gr H g g' → Kpt (Wm g) H H' → SdAt Ck Cs H' g' (p.bring l) → Q .non H'
abbrev nBring : List Str := ["_law_keepers", "_law_sequencers", "_law_letter", "_law_one"]
theorem scBring : FnScope nBring ["_law_keepers", "_law_sequencers", "_law_letter"] (defScope sBring) := ⟨rfl, rfl, rfl, by decide +kernel, rfl, by decide +kernel, by decide +kernel⟩
theorem Kpt.noW {M : Addr → Prop} {H H' : Hp} (k : Kpt No H H') : Kpt M H H' := k.mono fun _ z => z.elim
theorem ok_bring {f fH fQ : Addr} {fd fdH fdQ : FuncData} (F : Fun K "_law_bring" "_law_bring" sBring f fd) (T : Txt K mg Cr Ck Cs Cc)
    (GH : FnOk P w K mg base CX0 5 fH fdH ["self", "letter"] (spKpHandle Ck)) (bH : Binds K fdH ["self", "letter"] []) (mH : Meth K Ck "handle" fH)
    (GQ : FnOk P w K mg base CX0 2 fQ fdQ ["self", "letter"] (spSqHear Cs)) (bQ : Binds K fdQ ["self", "letter"] []) (mQ : Meth K Cs "hear" fQ) :
    FnOk P w K mg base CX0 6 f fd ["_law_keepers", "_law_sequencers", "_law_letter"] (spBring Ck Cs) := by
  refine F.ok scBring (fun vs H Q E h => ?_) (fun cdv A outer s H vs Q E hr h => ?_)
  · obtain ⟨g, p, lv, l, m, b, r, rfl, _⟩ := h
    rfl
  · obtain ⟨g, p, lv, l, m, b, r, rfl, S, hl, lok, ok, hm, hb, kk⟩ := h
    have hr2 : Room 2 _ := hr.mono (by decide)
    refine ⟨_, pss_one (ps_if (pt_cmpR op_in_seq (pe_ix ix_tup (pv 2) pe_int (fun _ _ => rfl)) (pe_tup (pa_cons pe_str (pa_cons pe_str pa_nil))) (by rfl))
        (pss_one (ps_expr (pe_meth (pe_ix ix_list (pv 0) (pe_ix ix_tup (pv 2) pe_int (fun _ _ => rfl)) (fun _ _ => rfl)) T.clK mH GH hr bH .nil pass0 (pa_cons (pv 2) pa_nil))))
        (pss_one (ps_for PassesOwn.never rfl (pi_list (pv 1)) (pg_name (i := 3) scBring.nd rfl (Or.inl rfl)) (pss_one (ps_expr (pe_meth (pv 3) T.clS mQ GQ hr2 bQ .nil pass0 (pa_cons (pv 2) pa_nil))))))), ?_⟩
    obtain ⟨t, tr, rfl, ht⟩ := hl.three
    refine ⟨_, rfl, t, _, _, _, rfl, rfl, sqT ht, at0, (by show 2 ≤ sizeLine; exact small (by decide)), fun q nq => ?_⟩
    have k2 : Kpt No H (upd H q (.tup [.str "ask", .str "write"])) := Kpt.new nq
    have h2 : upd H q (.tup [.str "ask", .str "write"]) q = some (.tup [.str "ask", .str "write"]) := upd_same
    have hv2 := hl.mono k2.tup
    have ht2 := k2.tup _ _ ht
    have S2 := S.mono k2 fun _ _ z => z
    generalize upd H q (.tup [.str "ask", .str "write"]) = H2 at *
    refine ⟨q, _, rfl, .inr (sqT h2), rfl, rfl, _, rfl, ?_⟩
    rw [if_neg Bool.false_ne_true, word_down]
    have hrt : rowTop = 1000 := rfl
    cases hd : l.down with
    | true =>
      have hn := lok.1
      obtain ⟨k, hk⟩ : ∃ k, p.ks[l.num]? = some k := ⟨p.ks[l.num]'(by rw [ok.len]; exact hn), List.getElem?_eq_getElem (by rw [ok.len]; exact hn)⟩
      obtain ⟨a, ha, q1⟩ := Pd.get S2.kp hk
      obtain ⟨dxk, rk, lk, wk, hok, _⟩ := id q1
      have kok := (ok.num _ _ hk).2
      refine iteT ⟨_, rfl, _, rfl, t, _, _, _, rfl, rfl, sqT ht2, at2, g.lk, _, _, .ref a, rfl, rfl, sqL S2.lk, at_of (j := l.num) rfl (by rw [List.getElem?_map, ha]; rfl), a, dxk, _, rfl, hok, by rfl, _, rfl,
        a, k, _, l, rfl, q1, hv2, hd, ?_, ?_, fun H3 q3 k3 => ?_⟩
      · have h1 := kok.size; omega
      · have h1 := kok.wsize; omega
      · have ham := List.mem_of_getElem? ha
        have S3 := S2.kpStep ha q3 k3
        rw [← Sde.at'_some (f := (·.handle l)) hk] at S3
        have e : p.bring l = p.at' l.num (·.handle l) := by unfold Sde.bring; rw [if_pos hd]
        rw [e] at kk
        exact kk g _ .refl (k2.noW.trans (k3.mono fun b hb => .inl (by rw [hb]; exact ham))) S3
    | false =>
      refine iteF ⟨_, rfl, g.ls, rfl, ⟨_, sqL S2.ls⟩, hear_all (K := K) (p := p) (l := l) (m := m) (c := r) (fun v' => [some (.ref g.lk), some (.ref g.ls), some (.ref t), v']) none (fun _ _ => rfl) (fun _ => rfl) (fun _ => rfl) S2 hv2 hd ok.sq hm lok fun v' g' H3 e1 e2 e3 S3 mm k3 => ?_⟩
      have e : p.bring l = p.heard l := by unfold Sde.bring; rw [if_neg (by rw [hd]; exact Bool.false_ne_true)]
      rw [e] at kk
      have k3' : Kpt (Wm g) H2 H3 := k3.mono fun b hb => .inr hb
      refine kk g' _ (Gr.trans .refl k2.noW (Gr.of e1 e2 e3 mm)) (k2.noW.trans k3') S3
end
end K49

/-! K49H2: looks. -/
namespace K49
open PySem PySem.Spec PyProof.Rows L2
theorem seqT_same {K : PySem.W.Frag} {H H' : Hp} {a : Addr} {xs : List V} (e : Same H H') (h : SqT K H a xs) : SqT K H' a xs := by
  rcases h with (h | ⟨o, h⟩) | h
  · exact .inl (.inl (e _ _ h))
  · exact .inl (.inr ⟨o, e _ _ h⟩)
  · exact .inr h
mutual
theorem dp_mono {K : PySem.W.Frag} {H H' : Hp} (k : Same H H') : ∀ {v : V} {d : PyData}, Dp K H v d → Dp K H' v d
  | _, _, .non => .non
  | _, _, .bl b => .bl b
  | _, _, .int i => .int i
  | _, _, .str x => .str x
  | _, _, .lst h r => .lst (k.seq h) (dpAll_mono k r)
  | _, _, .tup h r => .tup (seqT_same k h) (dpAll_mono k r)
theorem dpAll_mono {K : PySem.W.Frag} {H H' : Hp} (k : Same H H') : ∀ {vs : List V} {ds : List PyData}, DpAll K H vs ds → DpAll K H' vs ds
  | _, _, .nil => .nil
  | _, _, .cons a r => .cons (dp_mono k a) (dpAll_mono k r)
end
def kpD (k : Kp) : PyData := .tuple [.int k.num, .tuple (k.recs.map rcD), .tuple (k.loose.map rcD), .tuple (k.wait.map ltD)]
def sqD (s : Sq) : PyData := .tuple [.int s.ep, .int s.many, .str s.st.str, .list (s.row.map PyData.int), .tuple (s.toSend.map ltD), .tuple (s.settled.map PyData.int)]
def lkD (p : Sde) : PyData := .tuple [.list (p.ks.map kpD), .list (p.ss.map sqD)]
theorem all_of {α : Type} {P : α → Prop} : ∀ {l : List α}, (∀ i (h : i < l.length), P l[i]) → ∀ x ∈ l, P x := fun {l} h x hx => by
  obtain ⟨i, hi, e⟩ := List.getElem_of_mem hx
  rw [← e]; exact h i hi
theorem OkD.tup1 {n : Nat} {a : PyData} {ds : List PyData} (h : OkD n a) (r : OkD (n + 1) (.tuple ds)) (hs : ∀ d ∈ ds, OkD n d) : OkD (n + 1) (.tuple (a :: ds)) := OkD.tup fun d hd => by
  rcases List.mem_cons.mp hd with rfl | hd
  · exact h
  · exact hs d hd
theorem mem_two {α : Type} {P : α → Prop} {a b : α} (ha : P a) (hb : P b) : ∀ x ∈ [a, b], P x := fun x hx => by
  rcases List.mem_cons.mp hx with rfl | hx
  · exact ha
  · rw [List.mem_singleton.mp hx]; exact hb
theorem mem_more {α : Type} {P : α → Prop} {a : α} {l : List α} (ha : P a) (hl : ∀ x ∈ l, P x) : ∀ x ∈ a :: l, P x := fun x hx => by
  rcases List.mem_cons.mp hx with rfl | hx
  · exact ha
  · exact hl x hx
theorem kpD_ok (k : Kp) : OkD 5 (kpD k) := OkD.tup (mem_more (OkD.int 4 _) (mem_more ((OkD.tup (mapD_ok rcD_ok k.recs)).mono (by decide)) (mem_two ((OkD.tup (mapD_ok rcD_ok k.loose)).mono (by decide)) (OkD.tup (mapD_ok ltD_ok k.wait)))))
theorem st_lay (x : Sd) : PyData.canLay0 (.str x.str) = true := by
  cases x with
  | asking => exact (by decide +kernel : PyData.canLay0 (.str "asking") = true)
  | leading => exact (by decide +kernel : PyData.canLay0 (.str "leading") = true)
  | stopped => exact (by decide +kernel : PyData.canLay0 (.str "stopped") = true)
theorem sqD_ok (s : Sq) : OkD 5 (sqD s) := OkD.tup (mem_more (OkD.int 4 _) (mem_more (OkD.int 4 _) (mem_more (OkD.str 4 (st_lay s.st)) (mem_more ((OkD.lst (mapD_ok (OkD.int 0) s.row)).mono (by decide)) (mem_two (OkD.tup (mapD_ok ltD_ok s.toSend)) ((OkD.tup (mapD_ok (OkD.int 0) s.settled)).mono (by decide)))))))
theorem lkD_ok (p : Sde) : OkD 7 (lkD p) := OkD.tup (mem_two (OkD.lst (mapD_ok kpD_ok p.ks)) (OkD.lst (mapD_ok sqD_ok p.ss)))
def KpV (H : Hp) (v : V) (k : Kp) : Prop := ∃ t rv lv wv, v = .ref t ∧ H t = some (.tup [.int k.num, rv, lv, wv]) ∧ RcsV H rv k.recs ∧ RcsV H lv k.loose ∧ LtsV H wv k.wait
theorem KpV.mono {H H' : Hp} {v : V} {k : Kp} (t : TupS H H') (h : KpV H v k) : KpV H' v k := let ⟨a, rv, lv, wv, e, x, b, c, d⟩ := h; ⟨a, rv, lv, wv, e, t _ _ x, b.mono t, c.mono t, d.mono t⟩
theorem KpV.dp {K : PySem.W.Frag} {H : Hp} {v : V} {k : Kp} (h : KpV H v k) : Dp K H v (kpD k) := by
  obtain ⟨a, rv, lv, wv, rfl, x, b, c, d⟩ := h
  exact .tup (sqT x) (.cons (.int _) (.cons b.dp (.cons c.dp (.cons d.dp .nil))))
/-- .. whose row's list is not D -/
def SqV (D : Addr) (H : Hp) (v : V) (s : Sq) : Prop := ∃ t l sv u, v = .ref t ∧ H t = some (.tup [.int s.ep, .int s.many, .str s.st.str, .ref l, sv, .ref u]) ∧ H l = some (.lst (s.row.map V.int)) ∧ l ≠ D ∧ LtsV H sv s.toSend ∧ H u = some (.tup (s.settled.map V.int))
theorem SqV.mono {D : Addr} {M : Addr → Prop} {H H' : Hp} {v : V} {s : Sq} (k : Kpt M H H') (hM : ∀ b, M b → b = D) (h : SqV D H v s) : SqV D H' v s := let ⟨t, l, sv, u, e, x, y, n, z, w⟩ := h; ⟨t, l, sv, u, e, k.tup _ _ x, k.keep _ _ y fun q => n (hM _ q), n, z.mono k.tup, k.tup _ _ w⟩
theorem SqV.dp {K : PySem.W.Frag} {D : Addr} {H : Hp} {v : V} {s : Sq} (h : SqV D H v s) : Dp K H v (sqD s) := by
  obtain ⟨t, l, sv, u, rfl, x, y, n, z, w⟩ := h
  exact .tup (sqT x) (.cons (.int _) (.cons (.int _) (.cons (.str _) (.cons (.lst (sqL y) (dpInts _)) (.cons z.dp (.cons (.tup (sqT w) (dpInts _)) .nil))))))
def spLooks (K : PySem.W.Frag) (Ck Cs : Addr) : Sp := fun vs H Q _ => ∃ (g : Sg) (p : Sde) (m b r : Nat), vs = [.ref g.lk, .ref g.ls] ∧ SdAt Ck Cs H g p ∧ SdeOk m b r p ∧ 1 ≤ m ∧ m ≤ 60 ∧ p.ss.length ≤ 1000 ∧
  ∀ (v : V) (H' : Hp), Dp K H' v (lkD p) → Kpt No H H' → Q v H'
section
variable {P : Program} {w : World} {K : PySem.W.Frag} {mg : Str → Option Value} {base : Heap} {Cr Ck Cs Cc Cb CE fB : Addr}
abbrev nLooks : List Str := ["_law_keepers", "_law_sequencers", "_law_mine", "_law_one"]
theorem scLooks : FnScope nLooks ["_law_keepers", "_law_sequencers"] (defScope sLooks) := ⟨rfl, rfl, rfl, by decide +kernel, rfl, by decide +kernel, by decide +kernel⟩
theorem getR {α : Type} {xs : List α} {f : α → V} {i : Nat} {x : V} (h : (xs.map f)[i]? = some x) : ∃ a, xs[i]? = some a ∧ x = f a := by
  rw [List.getElem?_map] at h
  cases e : xs[i]? with
  | none => rw [e] at h; cases h
  | some a => rw [e] at h; exact ⟨a, rfl, (Option.some.inj h).symm⟩
theorem ok_looks {f fS fT : Addr} {fd fdS fdT : FuncData} (F : Fun K "_law_looks" "_law_looks" sLooks f fd) (T : Txt K mg Cr Ck Cs Cc)
    (GS : FnOk P w K mg base CX0 1 fS fdS ["self"] (spSqSend Cs)) (bS : Binds K fdS ["self"] []) (mS : Meth K Cs "to_send" fS)
    (GT : FnOk P w K mg base CX0 2 fT fdT ["self"] (spSqSettled Cs)) (bT : Binds K fdT ["self"] []) (mT : Meth K Cs "settled" fT) :
    FnOk P w K mg base CX0 3 f fd ["_law_keepers", "_law_sequencers"] (spLooks K Ck Cs) := by
  refine F.ok scLooks (fun vs H Q E h => ?_) (fun cdv A outer s H vs Q E hr h => ?_)
  · obtain ⟨g, p, m, b, r, rfl, _⟩ := h
    rfl
  · obtain ⟨g, p, m, b, r, rfl, S, ok, hm1, hm, hss, kk⟩ := h
    have hr1 : Room 1 _ := hr.mono (by decide)
    have hkl := S.kp.length
    have hsl := S.sq.length
    refine ⟨_, pss_cons (ps_setLc (i := 2) (own := [("_law_one", 3)]) (g := gName 3) (tt := tYes) (te := tTup (tCons (tFld K (tVar 3) "number") (tCons (tFld K (tVar 3) "records") (tCons (tFld K (tVar 3) "loose") (tCons (tFld K (tVar 3) "waiting") tNil))))) rfl scLooks.nd rfl rfl (sw_true rfl rfl rfl (by decide +kernel))
        (pi_list (pv 0)) (blkOk_by (N := nLooks) (sc := defScope sLooks) (by decide +kernel)) (fun _ _ _ _ _ => pg_name (i := 3) scLooks.nd rfl (Or.inl rfl)) (fun _ _ _ _ _ => pts_nil)
        (fun _ _ _ _ _ => pe_tup (pa_cons (pe_fld (pv 3) rfl) (pa_cons (pe_fld (pv 3) rfl) (pa_cons (pe_fld (pv 3) rfl) (pa_cons (pe_fld (pv 3) rfl) pa_nil))))))
      (pss_one (ps_ret (pe_tup (pa_cons (pv 2) (pa_cons (pe_lc (own := [("_law_one", 3)]) (g := gName 3) (tt := tYes)
        (te := tTup (tCons (tFld K (tVar 3) "epoch") (tCons (tFld K (tVar 3) "many") (tCons (tFld K (tVar 3) "stand") (tCons (tCB (fun xs H Q => ∃ p ys, xs = [.ref p] ∧ (SqL K H p ys ∨ SqT K H p ys) ∧ ∀ l, H l = none → Q (.ref l) (upd H l (.lst ys))) (tCons (tFld K (tVar 3) "row") tNil))
          (tCons (tMeth Cs "to_send" (spSqSend Cs) [] E0 (tVar 3) tNil) (tCons (tMeth Cs "settled" (spSqSettled Cs) [] E0 (tVar 3) tNil) tNil))))))) rfl scLooks.nd
        (pi_list (pv 1)) (blkOk_by (N := nLooks) (sc := defScope sLooks) (by decide +kernel)) (fun _ _ _ _ _ => pg_name (i := 3) scLooks.nd rfl (Or.inl rfl)) (fun _ _ _ _ _ => pts_nil)
        (fun _ _ _ _ _ => pe_tup (pa_cons (pe_fld (pv 3) rfl) (pa_cons (pe_fld (pv 3) rfl) (pa_cons (pe_fld (pv 3) rfl) (pa_cons (pe_callTy call_list_of (by rfl) T.b.list (by decide +kernel) (pa_cons (pe_fld (pv 3) rfl) pa_nil))
          (pa_cons (pe_meth0 (pv 3) T.clS mS GS hr1 bS .nil pass0) (pa_cons (pe_meth0 (pv 3) T.clS mT GT hr bT .nil pass0) pa_nil)))))))) pa_nil))))), ?_⟩
    have hkn := ok.len
    -- the keepers
    refine ⟨_, rfl, g.lk, rfl, ⟨_, sqL S.lk⟩, fun D nD => lc_list (K := K) (a := g.lk) (xs := g.kas.map V.ref) (fun j H4 => ∃ acc, H4 D = some (.lst acc) ∧ Paired (KpV H4) acc (p.ks.take j) ∧ Kpt No H H4)
      ⟨[], upd_same, .nil, Kpt.new nD⟩ (fun j H4 _ ⟨_, _, _, k4⟩ => sqL (k4.same _ _ S.lk)) (fun j x H4 hx ⟨acc, hD, ha, k4⟩ => ?_) (fun H4 ⟨acc, hD, ha, k4⟩ => ?_)⟩
    · obtain ⟨a, ha', rfl⟩ := getR hx
      obtain ⟨k, hk, q⟩ := Pd.getL S.kp ha'
      obtain ⟨dx, rv, lv, wv, ho, hre, hlo, hwa⟩ := q.mono k4 fun z => z
      have hjl := (List.getElem?_eq_some_iff.mp hk).1
      refine ⟨wipe_again, yes ⟨_, rfl, a, Ck, dx, _, _, rfl, ho, T.clK, T.kNum, kf_num, _, rfl, a, Ck, dx, _, _, rfl, ho, T.clK, T.kRec, kf_rec, _, rfl, a, Ck, dx, _, _, rfl, ho, T.clK, T.kLoo, kf_loo, _, rfl, a, Ck, dx, _, _, rfl, ho, T.clK, T.kWai, kf_wai,
        (by show 4 ≤ sizeLine; exact small (by decide)), fun t nt => ?_⟩⟩
      have k5 : Kpt No H4 (upd H4 t (.tup [.int k.num, rv, lv, wv])) := Kpt.new nt
      have hq : KpV (upd H4 t (.tup [.int k.num, rv, lv, wv])) (.ref t) k := ⟨t, rv, lv, wv, rfl, upd_same, hre.mono k5.tup, hlo.mono k5.tup, hwa.mono k5.tup⟩
      have hD5 := k5.same _ _ hD
      have ha5 := Pd.mono (fun _ _ z => KpV.mono k5.tup z) ha
      generalize upd H4 t (.tup [.int k.num, rv, lv, wv]) = H5 at *
      have hal := ha5.length
      rw [List.length_take] at hal
      refine ⟨acc, hD5, smallT (by omega), acc ++ [.ref t], upd_same, ?_, (k4.trans k5).up nD⟩
      have k6 : Kpt (fun b => b = D) H5 (upd H5 D (.lst (acc ++ [.ref t]))) := Kpt.wr rfl hD5 lst_tup
      rw [take_snoc hk]
      exact Pd.app (Pd.mono (fun _ _ z => KpV.mono k6.tup z) ha5) (.cons (hq.mono k6.tup) .nil)
    · rw [List.length_map, hkl, List.take_length] at ha
      have S4 := S.mono k4 fun _ _ z => z
      -- the sequencers
      refine ⟨_, rfl, _, rfl, g.ls, rfl, ⟨_, sqL S4.ls⟩, fun D2 nD2 => lc_list (K := K) (a := g.ls) (xs := g.sas.map fun a => V.ref a.p) (fun j H5 => ∃ acc, H5 D2 = some (.lst acc) ∧ Paired (SqV D2 H5) acc (p.ss.take j) ∧ Kpt No H4 H5)
        ⟨[], upd_same, .nil, Kpt.new nD2⟩ (fun j H5 _ ⟨_, _, _, k5⟩ => sqL (k5.same _ _ S4.ls)) (fun j x H5 hx ⟨acc, hD5, ha5, k5⟩ => ?_) (fun H5 ⟨acc, hD5, ha5, k5⟩ => ?_)⟩
      · obtain ⟨a, ha', rfl⟩ := getR hx
        obtain ⟨s, hs, q⟩ := Pd.getL S4.sq ha'
        have sok := ok.sq s (List.mem_of_getElem? hs)
        have hjl := (List.getElem?_eq_some_iff.mp hs).1
        have q5 := q.mono k5 fun _ _ z => z
        obtain ⟨dx, ho⟩ := q5.ob
        refine ⟨wipe_again, yes ⟨_, rfl, a.p, Cs, dx, _, _, rfl, ho, T.clS, T.sEp, sf_ep, _, rfl, a.p, Cs, dx, _, _, rfl, ho, T.clS, T.sMan, sf_many, _, rfl, a.p, Cs, dx, _, _, rfl, ho, T.clS, T.sSt, sf_st, _, rfl, a.p, Cs, dx, _, _, rfl, ho, T.clS, T.sRow, sf_row, a.l, _, rfl, .inl (sqL q5.row), fun l nl => ?_⟩⟩
        have k6 : Kpt No H5 (upd H5 l (.lst (s.row.map V.int))) := Kpt.new nl
        have hl6 : upd H5 l (.lst (s.row.map V.int)) l = some (.lst (s.row.map V.int)) := upd_same
        have nlD : l ≠ D2 := (ne_of_none hD5 nl).symm
        have q6 := q5.mono k6 fun _ _ z => z
        have ho6 := k6.same _ _ ho
        generalize upd H5 l (.lst (s.row.map V.int)) = H6 at *
        refine ⟨_, rfl, a.p, dx, _, rfl, ho6, by rfl, a, s, rfl, q6, by rw [sok.many]; exact hm, by rw [sok.tk, sok.many], fun sv H7 hsv k7 => ?_⟩
        have q7 := q6.mono k7 fun _ _ z => z
        have ho7 := k7.same _ _ ho6
        refine ⟨_, rfl, a.p, dx, _, rfl, ho7, by rfl, a, s, rfl, q7, by rw [sok.many]; exact hm, by rw [sok.many]; exact hm1, by rw [sok.tk, sok.many], fun u H8 hu k8 => ?_⟩
        refine ⟨(by show 6 ≤ sizeLine; exact small (by decide)), fun t nt => ?_⟩
        have k9 : Kpt No H8 (upd H8 t (.tup [.int s.ep, .int s.many, .str s.st.str, .ref l, sv, .ref u])) := Kpt.new nt
        have k79 := k8.trans k9
        have hq : SqV D2 (upd H8 t (.tup [.int s.ep, .int s.many, .str s.st.str, .ref l, sv, .ref u])) (.ref t) s := ⟨t, l, sv, u, rfl, upd_same, k79.same _ _ (k7.same _ _ hl6), nlD, hsv.mono k79.tup, k9.tup _ _ hu⟩
        have k59 := ((k6.trans k7).trans k8).trans k9
        have hD9 := k59.same _ _ hD5
        have ha9 := Pd.mono (fun _ _ z => SqV.mono (D := D2) k59 (fun _ z => z.elim) z) ha5
        generalize upd H8 t (.tup [.int s.ep, .int s.many, .str s.st.str, .ref l, sv, .ref u]) = H9 at *
        have hal := ha9.length
        rw [List.length_take] at hal
        refine ⟨acc, hD9, smallT (by omega), acc ++ [.ref t], upd_same, ?_, (k5.trans k59).up nD2⟩
        have k10 : Kpt (fun b => b = D2) H9 (upd H9 D2 (.lst (acc ++ [.ref t]))) := Kpt.wr rfl hD9 lst_tup
        rw [take_snoc hs]
        exact Pd.app (Pd.mono (fun _ _ z => SqV.mono (D := D2) k10 (fun _ z => z) z) ha9) (.cons (SqV.mono (D := D2) k10 (fun _ z => z) hq) .nil)
      · rw [List.length_map, hsl, List.take_length] at ha5
        refine ⟨(by show 2 ≤ sizeLine; exact small (by decide)), fun t nt => ?_⟩
        have k6 : Kpt No H5 (upd H5 t (.tup [.ref D, .ref D2])) := Kpt.new nt
        have k56 := k5.trans k6
        have ht : upd H5 t (.tup [.ref D, .ref D2]) t = some (.tup [.ref D, .ref D2]) := upd_same
        have hD6 := k56.same _ _ hD
        have ha6 := Pd.mono (fun _ _ z => KpV.mono k56.tup z) ha
        have hD26 := k6.same _ _ hD5
        have ha26 := Pd.mono (fun _ _ z => SqV.mono k6 (fun _ z => z.elim) z) ha5
        have k06 := k4.trans k56
        generalize upd H5 t (.tup [.ref D, .ref D2]) = H6 at *
        exact kk _ _ (.tup (sqT ht) (.cons (.lst (sqL hD6) (dpAll (fun _ _ z => KpV.dp z) ha6)) (.cons (.lst (sqL hD26) (dpAll (fun _ _ z => SqV.dp z) ha26)) .nil))) k06
end
end K49

/-! K49H3: bars. -/
namespace K49
open PySem PySem.Spec PyProof.Rows L2
/-- what begin refuses -/
def NoEp (p : Sde) (x : V) : Prop := (∃ e : Int, x = .int e ∧ (¬ (0 ≤ e ∧ e ≤ 999999999999) ∨ e ∈ p.ss.map (·.ep))) ∨ ∃ z, x = .str z
/-- what lose and deliver refuse -/
def NoAt (w : List Lt) (x : V) : Prop := (∃ e : Int, x = .int e ∧ ¬ (0 ≤ e ∧ e ≤ (w.length : Int) - 1)) ∨ ∃ z, x = .str z
def spBars (Ck Cs Cc : Addr) : Sp := fun vs H Q _ => ∃ (c ll : Addr) (g : Sg) (p : Sde) (w : List Lt) (x : V) (kd : Int) (m b r : Nat), vs = [.ref c, .int kd, x] ∧ CnAt Ck Cs Cc H c ll g p w ∧ w.length ≤ 90000 ∧ p.ss.length ≤ 1000 ∧ SdeOk m b r p ∧ m ≤ 60 ∧ b ≤ rowTop ∧ (∀ l ∈ w, LtOk m l) ∧
  ((kd = 0 ∧ NoEp p x) ∨ (kd = 1 ∧ NoAt w x) ∨ (kd = 2 ∧ NoAt w x)) ∧ ∀ H' : Hp, Kpt No H H' → Q (.bl true) H'
section
variable {P : Program} {w : World} {K : PySem.W.Frag} {mg : Str → Option Value} {base : Heap} {Cr Ck Cs Cc Cb CE fB : Addr}
abbrev nBars : List Str := ["_law_council", "_law_kind", "_law_thing", "fault"]
theorem scBars : FnScope nBars ["_law_council", "_law_kind", "_law_thing"] (defScope sBars) := ⟨rfl, rfl, rfl, by decide +kernel, rfl, by decide +kernel, by decide +kernel⟩
def tsBars (Cb : Addr) : Addr → Value → Option Addr → TS := fun a cls d => tRet (tOp rEq (tByBad Cb a cls d (tVar 3)) (tVar 2))
def tbBars (Ck Cs Cc Cb : Addr) : WX → TS := fun W => tSeq (tIfS (tTest (tOp rEq (tVar 1) (tC (.int 0)))) (tDrop (tMethSx Cc "begin" (spCnBegin Ck Cs Cc Cb) (WE W) (tVar 0) (tCons (tVar 2) tNil)))
  (tIfS (tTest (tOp rEq (tVar 1) (tC (.int 1)))) (tDrop (tMethSx Cc "deliver" (spCnDeliver Ck Cs Cc Cb) (WE W) (tVar 0) (tCons (tVar 2) (tCons (tC (.bl false)) tNil))))
    (tDrop (tMethSx Cc "lose" (spCnLose Ck Cs Cc Cb) (WE W) (tVar 0) (tCons (tVar 2) tNil))))) (tRet (tC (.bl false)))
theorem ok_bars {f fB1 fD fL : Addr} {fd fdB fdD fdL : FuncData} (F : Fun K "_law_bars" "_law_bars" sBars f fd) (T : Txt K mg Cr Ck Cs Cc) (TB : PySem.K49X.BadTxt P K mg Cb CE fB)
    (GB : FnOk P w K mg base (L2.CX P w) 3 fB1 fdB ["self", "epoch"] (spCnBegin Ck Cs Cc Cb)) (bB : Binds K fdB ["self", "epoch"] []) (mB : Meth K Cc "begin" fB1)
    (GD : FnOk P w K mg base (L2.CX P w) 6 fD fdD ["self", "at", "is_kept"] (spCnDeliver Ck Cs Cc Cb)) (bD : Binds K fdD ["self", "at", "is_kept"] []) (mD : Meth K Cc "deliver" fD)
    (GL : FnOk P w K mg base (L2.CX P w) 2 fL fdL ["self", "at"] (spCnLose Ck Cs Cc Cb)) (bL : Binds K fdL ["self", "at"] []) (mL : Meth K Cc "lose" fL) :
    FnOk P w K mg base CX0 7 f fd ["_law_council", "_law_kind", "_law_thing"] (spBars Ck Cs Cc) := by
  refine F.ok scBars (fun vs H Q E h => ?_) (fun cdv A outer s H vs Q E hr h => ?_)
  · obtain ⟨c, ll, g, p, w, x, kd, m, b, r, rfl, _⟩ := h
    rfl
  · obtain ⟨c, ll, g, p, w, x, kd, m, b, r, rfl, C, hw, hss, ok, hm, hb, how, hx, kk⟩ := h
    have hr3 : Room 3 _ := hr.mono (by decide)
    have hr2 : Room 2 _ := hr.mono (by decide)
    refine ⟨_, pss_one (ps_try_as (i := 3) (c := .ref Cb) (tb := tbBars Ck Cs Cc Cb) (ts := tsBars Cb) (Wout := fun _ _ _ _ => False) rfl rfl scBars.nd rfl rfl ⟨rfl, by decide, Or.inl TB.gC⟩ takes0
        (fun W pn xe tk _ => pss_cons (ps_if (pt_cmpR op_eq (pv 1) pe_int (nomark _)) (pss_one (ps_expr (by exact (pe_methSx (pv 0) T.clC mB GB hr3 bB (fun σ => passAt tk σ) (by exact (pa_cons (pv 2) pa_nil))))))
            (pss_one (ps_if (pt_cmpR op_eq (pv 1) pe_int (nomark _)) (pss_one (ps_expr (by exact (pe_methSx (pv 0) T.clC mD GD hr bD (fun σ => passAt tk σ) (by exact (pa_cons (pv 2) (pa_cons pe_bl pa_nil)))))))
              (pss_one (ps_expr (by exact (pe_methSx (pv 0) T.clC mL GL hr2 bL (fun σ => passAt tk σ) (by exact (pa_cons (pv 2) pa_nil)))))))))
          (pss_one (ps_ret pe_bl)))
        (fun a oe cls d pn hz hf => pss_one (ps_ret (by exact (pe_cmpR op_eq (pe_byBad TB hz hf (pv 3)) (pv 2) (nomark _)))))), ?_⟩
    obtain ⟨dx, hc⟩ := C.ob
    have bad : ∀ (σ0 : L2.St), σ0 = [some (.ref c), some (.int kd), some x, none] → scal x x = true → Bad Cb H x (WE (wAs K (.ref Cb) 3 (tsBars Cb) (fun _ _ _ _ => False) { nx := fun _ H' => Q .non H', rt := Q }) σ0) := by
      rintro σ0 rfl hsc d H' k1 hd
      refine ⟨true, TB.te, fun _ a0 _ => ?_, fun q => Bool.noConfusion q⟩
      refine ⟨_, rfl, rfl, rfl, d, x, rfl, hd, _, rfl, hsc, ?_⟩
      rw [decide_eq_true rfl]
      exact kk H' k1
    have sc : ∀ {p : Sde} {x : V}, (∃ e : Int, x = .int e) ∨ (∃ z, x = .str z) → scal x x = true := fun h => by
      rcases h with ⟨e, rfl⟩ | ⟨z, rfl⟩ <;> rfl
    rcases hx with ⟨rfl, hx⟩ | ⟨rfl, hx⟩ | ⟨rfl, hx⟩
    · have hs : scal x x = true := by rcases hx with ⟨e, rfl, _⟩ | ⟨z, rfl⟩ <;> rfl
      refine ⟨_, rfl, rfl, _, rfl, ?_⟩
      rw [show decide (V.int 0 = V.int 0) = true from rfl]
      refine iteT ⟨_, rfl, c, dx, _, rfl, hc, by rfl, _, rfl, ?_⟩
      refine ⟨c, ll, g, p, w, x, rfl, C, ?_, hss, .inr ⟨hx, bad _ rfl hs⟩⟩
      rw [ok.len]; exact hm
    · have hs : scal x x = true := by rcases hx with ⟨e, rfl, _⟩ | ⟨z, rfl⟩ <;> rfl
      refine ⟨_, rfl, rfl, _, rfl, ?_⟩
      rw [show decide (V.int 1 = V.int 0) = false from rfl]
      refine iteF ⟨_, rfl, rfl, _, rfl, ?_⟩
      rw [show decide (V.int 1 = V.int 1) = true from rfl]
      refine iteT ⟨_, rfl, c, dx, _, rfl, hc, by rfl, _, rfl, ?_⟩
      exact ⟨c, ll, g, p, w, x, false, m, b, r, rfl, C, hw, ok, hm, hb, how, .inr ⟨hx, bad _ rfl hs⟩⟩
    · have hs : scal x x = true := by rcases hx with ⟨e, rfl, _⟩ | ⟨z, rfl⟩ <;> rfl
      refine ⟨_, rfl, rfl, _, rfl, ?_⟩
      rw [show decide (V.int 2 = V.int 0) = false from rfl]
      refine iteF ⟨_, rfl, rfl, _, rfl, ?_⟩
      rw [show decide (V.int 2 = V.int 1) = false from rfl]
      refine iteF ⟨_, rfl, c, dx, _, rfl, hc, by rfl, _, rfl, ?_⟩
      exact ⟨c, ll, g, p, w, x, rfl, C, hw, .inr ⟨hx, bad _ rfl hs⟩⟩
end
end K49

/-! K49G1: the council and the law's own side, beside each other, with the law's letters and its draw. -/
namespace K49
open PySem PySem.Spec PyProof.Rows L2
structure LwG (K : PySem.W.Frag) (Ck Cs Cc : Addr) (da c La k2 s2 ll : Addr) (g g2 : Sg) (H : Hp) (pc pl : Sde) (wc wl : List Lt) : Prop where
  cn : CnAt Ck Cs Cc H c ll g pc wc
  sd : SdAt Ck Cs H g2 pl
  elk : g2.lk = k2
  els : g2.ls = s2
  le : ∃ vs, H La = some (.lst vs) ∧ Paired (LtV H) vs wl
  dr : DrAt K H da
  sep : ∀ b, CnMem c ll g b → ¬ g2.mem b
  lc : ¬ CnMem c ll g La
  l2 : ¬ g2.mem La
  ld : La ≠ da
  dc : ¬ CnMem c ll g da
  d2 : ¬ g2.mem da
def LwAt (K : PySem.W.Frag) (Ck Cs Cc : Addr) (da c La k2 s2 : Addr) (H : Hp) (pc pl : Sde) (wc wl : List Lt) : Prop := ∃ (ll : Addr) (g g2 : Sg), LwG K Ck Cs Cc da c La k2 s2 ll g g2 H pc pl wc wl
theorem Wm.mem {g : Sg} {b : Addr} (h : Wm g b) : g.mem b := .inr (.inr h)
section
variable {K : PySem.W.Frag} {Ck Cs Cc : Addr} {da c La k2 s2 ll : Addr} {g g2 g' : Sg} {H H' : Hp} {pc pl p' : Sde} {wc wl w' : List Lt}
theorem SdAt.nofrz {p : Sde} (S : SdAt Ck Cs H g p) {b : Addr} (h : g.mem b) (o : Obj) (u : HO) : H b ≠ some (.frz o u) := fun z => by
  rcases h with rfl | rfl | h | ⟨a, ha, hb⟩
  · rw [S.lk] at z; cases z
  · rw [S.ls] at z; cases z
  · obtain ⟨k, _, dx, r, l, w, e, _⟩ := Pd.mem S.kp h
    rw [e] at z; cases z
  · obtain ⟨s, _, q⟩ := Pd.mem S.sq ha
    obtain ⟨dx, e⟩ := q.ob
    obtain ⟨kvs, e2, _⟩ := q.rows
    rcases hb with rfl | rfl | rfl | rfl
    · rw [e] at z; cases z
    · rw [e2] at z; cases z
    · rw [q.row] at z; cases z
    · rw [q.tk] at z; cases z
theorem CnAt.nofrz {p : Sde} {w : List Lt} (C : CnAt Ck Cs Cc H c ll g p w) {b : Addr} (h : CnMem c ll g b) (o : Obj) (u : HO) : H b ≠ some (.frz o u) := fun z => by
  rcases h with rfl | rfl | h
  · obtain ⟨dx, e⟩ := C.ob
    rw [e] at z; cases z
  · obtain ⟨vs, e, _⟩ := C.le
    rw [e] at z; cases z
  · exact C.sd.nofrz h o u z
theorem LwG.le_there (L : LwG K Ck Cs Cc da c La k2 s2 ll g g2 H pc pl wc wl) : H La ≠ none := by
  obtain ⟨vs, e, _⟩ := L.le
  rw [e]; exact fun z => by cases z
/-- a step of the council -/
theorem LwG.cnStep (L : LwG K Ck Cs Cc da c La k2 s2 ll g g2 H pc pl wc wl) (C : CnAt Ck Cs Cc H' c ll g' p' w') (mm : ∀ b, CnMem c ll g' b → CnMem c ll g b ∨ H b = none) (k : Kpt (CnMem c ll g) H H') : LwG K Ck Cs Cc da c La k2 s2 ll g' g2 H' p' pl w' wl := by
  obtain ⟨vs, e, hq⟩ := L.le
  refine ⟨C, L.sd.mono k fun b hb z => L.sep b z hb, L.elk, L.els, ⟨vs, k.keep _ _ e L.lc, Pd.mono (fun _ _ z => LtV.mono k.tup z) hq⟩, L.dr.keep k L.dc fun b hb => L.cn.nofrz hb, fun b hb z => ?_, fun z => ?_, L.l2, L.ld, fun z => ?_, L.d2⟩
  · rcases mm b hb with y | y
    · exact L.sep b y z
    · exact L.sd.there z y
  · rcases mm La z with y | y
    · exact L.lc y
    · exact L.le_there y
  · rcases mm da z with y | y
    · exact L.dc y
    · exact L.dr.there y
/-- a step of the law's side -/
theorem LwG.sdStep (L : LwG K Ck Cs Cc da c La k2 s2 ll g g2 H pc pl wc wl) (S : SdAt Ck Cs H' g' p') (r : Gr H g2 g') (k : Kpt (Wm g2) H H') : LwG K Ck Cs Cc da c La k2 s2 ll g g' H' pc p' wc wl := by
  obtain ⟨vs, e, hq⟩ := L.le
  have mm : ∀ b, g'.mem b → g2.mem b ∨ H b = none := fun b hb => by
    rcases hb with hb | hb | hb
    · exact .inl (.inl (by rw [← r.lk]; exact hb))
    · exact .inl (.inr (.inl (by rw [← r.ls]; exact hb)))
    · rcases r.mem b hb with z | z
      · exact .inl z.mem
      · exact .inr z
  refine ⟨L.cn.mono k fun b hb z => L.sep b hb z.mem, S, r.lk.trans L.elk, r.ls.trans L.els, ⟨vs, k.keep _ _ e fun z => L.l2 z.mem, Pd.mono (fun _ _ z => LtV.mono k.tup z) hq⟩, L.dr.keep k (fun z => L.d2 z.mem) fun b hb => L.sd.nofrz hb.mem, fun b hb z => ?_, L.lc, fun z => ?_, L.ld, L.dc, fun z => ?_⟩
  · rcases mm b z with y | y
    · exact L.sep b hb y
    · exact L.cn.there hb y
  · rcases mm La z with y | y
    · exact L.l2 y
    · exact L.le_there y
  · rcases mm da z with y | y
    · exact L.d2 y
    · exact L.dr.there y
/-- nothing of them changed -/
theorem LwG.same (L : LwG K Ck Cs Cc da c La k2 s2 ll g g2 H pc pl wc wl) (k : Kpt No H H') : LwG K Ck Cs Cc da c La k2 s2 ll g g2 H' pc pl wc wl := L.sdStep (L.sd.mono k fun _ _ z => z) .refl k.noW
/-- a draw -/
theorem LwG.draw (L : LwG K Ck Cs Cc da c La k2 s2 ll g g2 H pc pl wc wl) (D : DrAt K H' da) (k : Kpt (fun b => b = da) H H') : LwG K Ck Cs Cc da c La k2 s2 ll g g2 H' pc pl wc wl := by
  obtain ⟨vs, e, hq⟩ := L.le
  exact ⟨L.cn.mono k fun b hb z => L.dc (z ▸ hb), L.sd.mono k fun b hb z => L.d2 (z ▸ hb), L.elk, L.els, ⟨vs, k.keep _ _ e L.ld, Pd.mono (fun _ _ z => LtV.mono k.tup z) hq⟩, D, L.sep, L.lc, L.l2, L.ld, L.dc, L.d2⟩
/-- other letters of the law's -/
theorem LwG.letters (L : LwG K Ck Cs Cc da c La k2 s2 ll g g2 H pc pl wc wl) {l : Addr} {vs : List V} (nl : H l = none) (hq : Paired (LtV H) vs w') : LwG K Ck Cs Cc da c l k2 s2 ll g g2 (upd H l (.lst vs)) pc pl wc w' := by
  have k : Kpt No H (upd H l (.lst vs)) := Kpt.new nl
  have L1 := L.same k
  exact ⟨L1.cn, L1.sd, L1.elk, L1.els, ⟨vs, upd_same, Pd.mono (fun _ _ z => LtV.mono k.tup z) hq⟩, L1.dr, L1.sep, fun z => L.cn.there z nl, fun z => L.sd.there z nl, fun z => L.dr.there (z ▸ nl), L1.dc, L1.d2⟩
theorem LwAt.same (L : LwAt K Ck Cs Cc da c La k2 s2 H pc pl wc wl) (k : Kpt No H H') : LwAt K Ck Cs Cc da c La k2 s2 H' pc pl wc wl := let ⟨ll, g, g2, L⟩ := L; ⟨ll, g, g2, L.same k⟩
theorem LwAt.draw (L : LwAt K Ck Cs Cc da c La k2 s2 H pc pl wc wl) (D : DrAt K H' da) (k : Kpt (fun b => b = da) H H') : LwAt K Ck Cs Cc da c La k2 s2 H' pc pl wc wl := let ⟨ll, g, g2, L⟩ := L; ⟨ll, g, g2, L.draw D k⟩
theorem LwAt.dr (L : LwAt K Ck Cs Cc da c La k2 s2 H pc pl wc wl) : DrAt K H da := let ⟨ll, g, g2, L⟩ := L; L.dr
theorem LwAt.letters (L : LwAt K Ck Cs Cc da c La k2 s2 H pc pl wc wl) {l : Addr} {vs : List V} (nl : H l = none) (hq : Paired (LtV H) vs w') : LwAt K Ck Cs Cc da c l k2 s2 (upd H l (.lst vs)) pc pl wc w' := let ⟨ll, g, g2, L⟩ := L; ⟨ll, g, g2, L.letters nl hq⟩
/-- the council: what it takes to let it do a deed -/
theorem LwAt.cn (L : LwAt K Ck Cs Cc da c La k2 s2 H pc pl wc wl) : ∃ (ll : Addr) (g : Sg), CnAt Ck Cs Cc H c ll g pc wc ∧ ∀ (p' : Sde) (w' : List Lt) (Q : Hp → Prop), (∀ H' : Hp, LwAt K Ck Cs Cc da c La k2 s2 H' p' pl w' wl → Q H') → CnTo Ck Cs Cc H c ll g p' w' Q := by
  obtain ⟨ll, g, g2, L⟩ := L
  exact ⟨ll, g, L.cn, fun p' w' Q hq g' H' C mm k => hq H' ⟨ll, g', g2, L.cnStep C mm k⟩⟩
/-- the law's side: what it takes to let it do a deed -/
theorem LwAt.sd (L : LwAt K Ck Cs Cc da c La k2 s2 H pc pl wc wl) : ∃ g2 : Sg, g2.lk = k2 ∧ g2.ls = s2 ∧ SdAt Ck Cs H g2 pl ∧ ∀ (g' : Sg) (H' : Hp) (p' : Sde), Gr H g2 g' → Kpt (Wm g2) H H' → SdAt Ck Cs H' g' p' → LwAt K Ck Cs Cc da c La k2 s2 H' pc p' wc wl := by
  obtain ⟨ll, g, g2, L⟩ := L
  exact ⟨g2, L.elk, L.els, L.sd, fun g' H' p' r k S => ⟨ll, g, g', L.sdStep S r k⟩⟩
theorem LwAt.le (L : LwAt K Ck Cs Cc da c La k2 s2 H pc pl wc wl) : ∃ vs, H La = some (.lst vs) ∧ Paired (LtV H) vs wl := let ⟨ll, g, g2, L⟩ := L; L.le
/-- one keeper of the law's side -/
theorem LwAt.kp (L : LwAt K Ck Cs Cc da c La k2 s2 H pc pl wc wl) {i : Nat} {k : Kp} (hk : pl.ks[i]? = some k) : ∃ (a dx : Addr) (fs : List (Str × V)) (xs : List V), H k2 = some (.lst xs) ∧ xs[i]? = some (.ref a) ∧ H a = some (.ins Ck dx fs) ∧ KpAt Ck H a k ∧
    (∀ m : Str, (kf 0 .non .non .non).lookup m = none → fs.lookup m = none) ∧ ∀ (k' : Kp) (H' : Hp), KpAt Ck H' a k' → Kpt (fun b => b = a) H H' → LwAt K Ck Cs Cc da c La k2 s2 H' pc { pl with ks := pl.ks.set i k' } wc wl := by
  obtain ⟨g2, rfl, rfl, S, kk⟩ := L.sd
  obtain ⟨a, ha, q⟩ := Pd.get S.kp hk
  obtain ⟨dx, rv, lv, wv, ho, _⟩ := id q
  have ham := List.mem_of_getElem? ha
  refine ⟨a, dx, _, _, S.lk, by rw [List.getElem?_map, ha]; rfl, ho, q, fun m hm => ?_, fun k' H' q' k1 => kk g2 H' _ .refl (k1.mono fun b hb => .inl (by rw [hb]; exact ham)) (S.kpStep ha q' k1)⟩
  unfold kf at hm ⊢
  simp only [List.lookup] at hm ⊢
  split at hm
  · cases hm
  · rename_i h1
    split at hm
    · cases hm
    · rename_i h2
      split at hm
      · cases hm
      · rename_i h3
        split at hm
        · cases hm
        · rename_i h4
          simp only [h1, h2, h3, h4]
/-- one sequencer of the law's side -/
theorem LwAt.sq (L : LwAt K Ck Cs Cc da c La k2 s2 H pc pl wc wl) {i : Nat} {s : Sq} (hs : pl.ss[i]? = some s) : ∃ (a : SA) (dx : Addr) (xs : List V), H s2 = some (.lst xs) ∧ xs[i]? = some (.ref a.p) ∧ H a.p = some (.ins Cs dx (sf s.ep s.many s.st.str a.d a.l a.t)) ∧ SqAt Cs H a s ∧
    ∀ (a' : SA) (s' : Sq) (H' : Hp), a'.p = a.p → SqAt Cs H' a' s' → (∀ b, a'.mem b → a.mem b ∨ H b = none) → Kpt a.mem H H' → LwAt K Ck Cs Cc da c La k2 s2 H' pc { pl with ss := pl.ss.set i s' } wc wl := by
  obtain ⟨g2, rfl, rfl, S, kk⟩ := L.sd
  obtain ⟨a, ha, q⟩ := Pd.get S.sq hs
  obtain ⟨dx, ho⟩ := q.ob
  have ham := List.mem_of_getElem? ha
  refine ⟨a, dx, _, S.ls, by rw [List.getElem?_map, ha]; rfl, ho, q, fun a' s' H' e q' hn k1 => kk _ H' _ (show Gr H g2 { g2 with sas := g2.sas.set i a' } from Gr.of rfl rfl rfl fun b hb => Sg.set_mem ha hn hb) (k1.mono fun b hb => .inr ⟨a, ham, hb⟩) (S.sqStep ha q' e hn k1)⟩
/-- one sequencer of the council's -/
theorem LwAt.cnSq (L : LwAt K Ck Cs Cc da c La k2 s2 H pc pl wc wl) {i : Nat} {s : Sq} (hs : pc.ss[i]? = some s) : ∃ (dc gl sl ll : Addr) (a : SA) (dx : Addr) (xs : List V), H c = some (.ins Cc dc (cf gl sl ll)) ∧ H sl = some (.lst xs) ∧ xs[i]? = some (.ref a.p) ∧ H a.p = some (.ins Cs dx (sf s.ep s.many s.st.str a.d a.l a.t)) ∧ SqAt Cs H a s ∧
    ∀ (s' : Sq) (H' : Hp), SqAt Cs H' a s' → Kpt a.mem H H' → LwAt K Ck Cs Cc da c La k2 s2 H' { pc with ss := pc.ss.set i s' } pl wc wl := by
  obtain ⟨ll, g, g2, L⟩ := L
  obtain ⟨dc, hc⟩ := L.cn.ob
  obtain ⟨a, ha, q⟩ := Pd.get L.cn.sd.sq hs
  obtain ⟨dx, ho⟩ := q.ob
  have ham := List.mem_of_getElem? ha
  refine ⟨dc, _, _, _, a, dx, _, hc, L.cn.sd.ls, by rw [List.getElem?_map, ha]; rfl, ho, q, fun s' H' q' k1 => ?_⟩
  have S1 := L.cn.sd.sqStep ha q' rfl (fun b hb => .inl hb) k1
  have k2 : Kpt (Wm g) H H' := k1.mono fun b hb => .inr ⟨a, ham, hb⟩
  have r : Gr H g { g with sas := g.sas.set i a } := Gr.of rfl rfl rfl fun b hb => Sg.set_mem ha (fun b hb => .inl hb) hb
  exact ⟨ll, _, g2, L.cnStep (L.cn.gr S1 r k2) (fun b hb => CnMem.gr r hb) (k2.mono fun b hb => CnMem.of hb)⟩
end
end K49

/-! K49B0: the law's text by places, its slots, what it calls. -/
namespace K49
open PySem PySem.Spec PyProof.Rows L2
def ifThen : Stmt → List Stmt
  | .If _ a _ _ => a
  | _ => []
def ifElse : Stmt → List Stmt
  | .If _ _ b _ => b
  | _ => []
def forBody : Stmt → List Stmt
  | .For _ _ b _ _ => b
  | _ => []
abbrev noS : Stmt := .Pass ⟨0, 0, 0, 0⟩
abbrev turnS (i : Nat) : Stmt := (forBody ((defBody sLaw).getD 3 noS)).getD i noS
/-- the deeds of a turn, one within the other's else -/
abbrev dSend : Stmt := turnS 3
abbrev dFlush : Stmt := (ifElse dSend).getD 0 noS
abbrev dFall : Stmt := (ifElse dFlush).getD 0 noS
abbrev dExch : Stmt := (ifElse dFall).getD 0 noS
abbrev dStop : Stmt := (ifElse dExch).getD 0 noS
abbrev dAt : Stmt := (ifElse dStop).getD 0 noS
abbrev nLaw : List Str := ["_law_script", "_law_draw", "_law_many", "_law_number_here", "_law_council", "_law_keepers", "_law_sequencers", "_law_letters", "_law_turn", "_law_kind", "_law_one", "_law_epoch", "_law_keeper", "_law_some", "_law_up", "_law_letter", "_law_answer", "_law_at", "_law_is_kept", "_law_thing", "_law_late"]
theorem scLaw : FnScope nLaw ["_law_script"] (defScope sLaw) := ⟨rfl, rfl, rfl, by decide +kernel, rfl, by decide +kernel, by decide +kernel⟩
abbrev LX (P : Program) (w : World) (K : PySem.W.Frag) (mg : Str → Option Value) (base : Heap) (f : Addr) (cdv : Value) (A : Around) (outer : List Env) (s : Shared) (H : Hp) (E : XK) : Cx :=
  (cxOf CX0 P w K mg base nLaw "law" (defScope sLaw) f cdv A outer s H E).nox
section
variable (P : Program) (w : World) (K : PySem.W.Frag) (mg : Str → Option Value) (base : Heap)
structure CalD (CX : CXT) (k : Nat) (x : Str) (ps : List Str) (sp : Sp) : Prop where
  ex : ∃ (f : Addr) (fd : FuncData), FnOk P w K mg base CX k f fd ps sp ∧ Binds K fd ps [] ∧ mg x = some (.ref f) ∧ PySem.W.keepIn K (.ref f) = true
structure MetD (CX : CXT) (k : Nat) (C : Addr) (m : Str) (ps : List Str) (sp : Sp) : Prop where
  ex : ∃ (f : Addr) (fd : FuncData), FnOk P w K mg base CX k f fd ps sp ∧ Binds K fd ps [] ∧ Meth K C m f
structure MakD (CX : CXT) (k : Nat) (C : Addr) (ps : List Str) (sp : Sp) : Prop where
  ex : ∃ (f : Addr) (fd : FuncData), FnOk P w K mg base CX k f fd ps sp ∧ Binds K fd ps [] ∧ Mk K C f
/-- all that the law calls -/
structure Lf (Cr Ck Cs Cc Cb : Addr) : Prop where
  T : Txt K mg Cr Ck Cs Cc
  take : CalD P w K mg base CX0 2 "_law_take" ["_law_draw", "_law_many"] (spTake K)
  pick : CalD P w K mg base CX0 3 "_law_pick" ["_law_draw", "_law_items"] (spPick K)
  looks : CalD P w K mg base CX0 3 "_law_looks" ["_law_keepers", "_law_sequencers"] (spLooks K Ck Cs)
  bring : CalD P w K mg base CX0 6 "_law_bring" ["_law_keepers", "_law_sequencers", "_law_letter"] (spBring Ck Cs)
  bars : CalD P w K mg base CX0 7 "_law_bars" ["_law_council", "_law_kind", "_law_thing"] (spBars Ck Cs Cc)
  cInit : MakD P w K mg base CX0 3 Cc ["self", "many"] (spCnInit Ck Cs Cc)
  kInit : MakD P w K mg base CX0 1 Ck ["self", "number"] (spKpInit Ck)
  sInit : MakD P w K mg base CX0 1 Cs ["self", "epoch", "many"] (spSqInit Cs)
  cBegin : MetD P w K mg base (L2.CX P w) 3 Cc "begin" ["self", "epoch"] (spCnBegin Ck Cs Cc Cb)
  cSend : MetD P w K mg base CX0 2 Cc "send" ["self", "number"] (spCnSend Ck Cs Cc)
  cDeliver : MetD P w K mg base (L2.CX P w) 6 Cc "deliver" ["self", "at", "is_kept"] (spCnDeliver Ck Cs Cc Cb)
  cLose : MetD P w K mg base (L2.CX P w) 2 Cc "lose" ["self", "at"] (spCnLose Ck Cs Cc Cb)
  cFlush : MetD P w K mg base CX0 2 Cc "flush" ["self", "number"] (spCnFlush Ck Cs Cc)
  cFall : MetD P w K mg base CX0 3 Cc "fall" ["self", "number", "many"] (spCnFall Ck Cs Cc)
  cStop : MetD P w K mg base CX0 1 Cc "stop" ["self", "number"] (spCnStop Ck Cs Cc)
  cExch : MetD P w K mg base CX0 6 Cc "exchange" ["self", "number", "up"] (spCnExch Ck Cs Cc)
  kFlush : MetD P w K mg base CX0 1 Ck "flush" ["self"] (spKpFlush Ck)
  kFall : MetD P w K mg base CX0 2 Ck "fall" ["self", "many"] (spKpFall Ck)
  kHandle : MetD P w K mg base CX0 5 Ck "handle" ["self", "letter"] (spKpHandle Ck)
  sAdd : MetD P w K mg base CX0 1 Cs "add" ["self", "entry"] (spSqAdd Cs)
  sHear : MetD P w K mg base CX0 2 Cs "hear" ["self", "letter"] (spSqHear Cs)
  sSend : MetD P w K mg base CX0 1 Cs "to_send" ["self"] (spSqSend Cs)
end
/-- within a turn: sequencer i, keeper ke were drawn -/
def Rdy (K : PySem.W.Frag) (Ck Cs Cc sa da c k2 s2 : Addr) (m b r n i ke tn : Nat) (σ : L2.St) (H : Hp) : Prop :=
  ∃ (La : Addr) (p : Sde) (w : List Lt) (u9 u10 u11 u13 u14 u15 u16 u17 u18 u19 u20 : Option V),
    σ = [some (.ref sa), some (.ref da), some (.int m), some (.int i), some (.ref c), some (.ref k2), some (.ref s2), some (.ref La), some (.int tn), u9, u10, u11, some (.int ke), u13, u14, u15, u16, u17, u18, u19, u20] ∧
    LwAt K Ck Cs Cc da c La k2 s2 H p p w w ∧ SdeOk m b r p ∧ w.length ≤ n ∧ (∀ l ∈ w, LtOk m l) ∧ p.ss.length ≤ 4 ∧ i < p.ss.length ∧ ke < m
/-- between turns -/
def Lp (K : PySem.W.Frag) (Ck Cs Cc sa da c k2 s2 : Addr) (m b r n : Nat) (σ : L2.St) (H : Hp) : Prop :=
  ∃ (La : Addr) (p : Sde) (w : List Lt) (u3 u8 u9 u10 u11 u12 u13 u14 u15 u16 u17 u18 u19 u20 : Option V),
    σ = [some (.ref sa), some (.ref da), some (.int m), u3, some (.ref c), some (.ref k2), some (.ref s2), some (.ref La), u8, u9, u10, u11, u12, u13, u14, u15, u16, u17, u18, u19, u20] ∧
    LwAt K Ck Cs Cc da c La k2 s2 H p p w w ∧ SdeOk m b r p ∧ w.length ≤ n ∧ (∀ l ∈ w, LtOk m l) ∧ p.ss.length ≤ 4
theorem Lp.mono {K : PySem.W.Frag} {Ck Cs Cc sa da c k2 s2 : Addr} {m b r n b' r' n' : Nat} {σ : L2.St} {H : Hp} (h : Lp K Ck Cs Cc sa da c k2 s2 m b r n σ H) (hb : b ≤ b') (hr : r ≤ r') (hn : n ≤ n') : Lp K Ck Cs Cc sa da c k2 s2 m b' r' n' σ H := by
  obtain ⟨La, p, w, u3, u8, u9, u10, u11, u12, u13, u14, u15, u16, u17, u18, u19, u20, e, L, ok, hw, hl, hs⟩ := h
  exact ⟨La, p, w, u3, u8, u9, u10, u11, u12, u13, u14, u15, u16, u17, u18, u19, u20, e, L, ok.mono hb hr, Nat.le_trans hw hn, hl, hs⟩
theorem SdeOk.setSq {m b r : Nat} {p : Sde} (h : SdeOk m b r p) {i : Nat} {s : Sq} (hs : SqOk m r s) : SdeOk m b r { p with ss := p.ss.set i s } := ⟨h.len, h.num, fun x hx => by
  rcases List.mem_or_eq_of_mem_set hx with hx | rfl
  · exact h.sq x hx
  · exact hs⟩
theorem set_get {α : Type} {l : List α} {i : Nat} {x : α} (h : l[i]? = some x) : l.set i x = l := by
  refine List.ext_getElem? fun j => ?_
  by_cases hj : j = i
  · subst hj; rw [List.getElem?_set_self (List.getElem?_eq_some_iff.mp h).1, h]
  · rw [List.getElem?_set_ne (fun z => hj z.symm)]
section
variable {P : Program} {w : World} {K : PySem.W.Frag} {mg : Str → Option Value} {base : Heap} {Cr Ck Cs Cc Cb : Addr} {f : Addr} {cdv : Value} {A : Around} {outer : List Env} {s0 : Shared} {H0 : Hp} {E0' : XK}
/-! ### send -/
theorem b_send2 (F : Lf P w K mg base Cr Ck Cs Cc Cb) (hr : Room 7 (LX P w K mg base f cdv A outer s0 H0 E0').A) : ∃ t, PSs (LX P w K mg base f cdv A outer s0 H0 E0') ((ifThen dSend).drop 1) t ∧ ∀ (D : Ends) (sa da c k2 s2 : Addr) (m b r n i ke tn : Nat) (σ : L2.St) (H : Hp),
    Rdy K Ck Cs Cc sa da c k2 s2 m b r n i ke tn σ H → m ≤ 4 → n ≤ 80000 → (∀ σ H', Lp K Ck Cs Cc sa da c k2 s2 m b r (n + 4) σ H' → D.nx σ H') → t D σ H := by
  obtain ⟨fS, fdS, GS, bS, mS⟩ := F.sSend.ex
  obtain ⟨fC, fdC, GC, bC, mC⟩ := F.cSend.ex
  have T := F.T
  have hr1 : Room 1 _ := hr.mono (by decide)
  have hr2 : Room 2 _ := hr.mono (by decide)
  refine ⟨_, pss_cons (ps_set (i := 7) scLaw.nd rfl (Or.inl rfl) (pe_op op_cat (pv 7) (pe_callTy call_list_of (by rfl) T.b.list (by decide +kernel) (pa_cons
      (pe_meth0 (pe_ix ix_list (pv 6) (pv 3) (fun _ _ => rfl)) T.clS mS GS hr1 bS .nil pass0) pa_nil))))
    (pss_one (ps_expr (pe_meth (pv 4) T.clC mC GC hr2 bC .nil pass0 (pa_cons (pv 3) pa_nil)))), ?_⟩
  rintro D sa da c k2 s2 m b r n i ke tn σ H ⟨La, p, w, u9, u10, u11, u13, u14, u15, u16, u17, u18, u19, u20, rfl, L, ok, hw, hlt, hss, hi, hke⟩ hm hn kk
  obtain ⟨s, hs⟩ : ∃ s, p.ss[i]? = some s := ⟨_, List.getElem?_eq_getElem hi⟩
  have sok := ok.sq s (List.mem_of_getElem? hs)
  have hts := toSend_ok sok
  obtain ⟨a, dx, xs, hls, hxi, ho, q, _⟩ := L.sq hs
  obtain ⟨vl, hl, hlq⟩ := L.le
  have e1 := hlq.length
  refine ⟨_, rfl, _, rfl, _, rfl, s2, xs, _, .ref a.p, rfl, rfl, sqL hls, at_of (j := i) rfl hxi, a.p, dx, _, rfl, ho, by rfl, a, s, rfl, q, by rw [sok.many]; omega, by rw [sok.tk, sok.many], fun v H1 hv k1 => ?_⟩
  obtain ⟨t, us, rfl, ht, hu⟩ := hv
  have e2 := hu.length
  refine ⟨t, us, rfl, .inr (sqT ht), fun q1 nq1 => ?_⟩
  have k2' : Kpt No H1 (upd H1 q1 (.lst us)) := Kpt.new nq1
  have hq1 : upd H1 q1 (.lst us) q1 = some (.lst us) := upd_same
  have hu2 := Pd.mono (fun _ _ z => LtV.mono k2'.tup z) hu
  have k12 := k1.trans k2'
  generalize upd H1 q1 (.lst us) = H2 at *
  have L2' := L.same k12
  have hl2 := k12.same _ _ hl
  have hlq2 := Pd.mono (fun _ _ z => LtV.mono k12.tup z) hlq
  refine ⟨La, q1, vl, us, rfl, rfl, hl2, hq1, small (by omega), fun l nl => ?_⟩
  have L3 := L2'.letters (w' := w ++ s.toSend) nl (Pd.app hlq2 hu2)
  generalize upd H2 l (.lst (vl ++ us)) = H3 at *
  obtain ⟨ll, g, C, kc⟩ := L3.cn
  obtain ⟨dxc, hc⟩ := C.ob
  refine ⟨_, rfl, c, dxc, _, rfl, hc, by rfl, _, rfl, ?_⟩
  refine ⟨c, ll, g, p, w, i, s, m, r, rfl, C, hs, sok, by omega, by omega, kc _ _ _ fun H4 L4 => kk _ _ ?_⟩
  refine ⟨l, p, w ++ s.toSend, _, _, _, _, _, _, _, _, _, _, _, _, _, _, rfl, L4, ok, ?_, fun x hx => ?_, hss⟩
  · rw [List.length_append]; omega
  · rcases List.mem_append.mp hx with hx | hx
    · exact hlt x hx
    · exact (hts.2 x hx).1
theorem b_send (F : Lf P w K mg base Cr Ck Cs Cc Cb) (hr : Room 7 (LX P w K mg base f cdv A outer s0 H0 E0').A) : ∃ t, PSs (LX P w K mg base f cdv A outer s0 H0 E0') (ifThen dSend) t ∧ ∀ (D : Ends) (sa da c k2 s2 : Addr) (m b r n i ke tn : Nat) (σ : L2.St) (H : Hp),
    Rdy K Ck Cs Cc sa da c k2 s2 m b r n i ke tn σ H → m ≤ 4 → n ≤ 80000 → r ≤ 1000 → (∀ σ H', Lp K Ck Cs Cc sa da c k2 s2 m b (r + 1) (n + 4) σ H' → D.nx σ H') → t D σ H := by
  obtain ⟨t2, p2, q2⟩ := b_send2 F hr
  obtain ⟨fA, fdA, GA, bA, mA⟩ := F.sAdd.ex
  have T := F.T
  have hr1 : Room 1 _ := hr.mono (by decide)
  refine ⟨_, pss_cons (ps_if (pt_cmpR op_eq (pe_fld (pe_ix ix_list (pv 6) (pv 3) (fun _ _ => rfl)) rfl) pe_str (nomark _))
      (pss_cons (ps_expr (pe_meth (pe_ix ix_list (pv 6) (pv 3) (fun _ _ => rfl)) T.clS mA GA hr1 bA .nil pass0 (pa_cons (pv 8) pa_nil)))
      (pss_one (ps_expr (pe_meth (pe_ix ix_list (pe_fld (pv 4) rfl) (pv 3) (fun _ _ => rfl)) T.clS mA GA hr1 bA .nil pass0 (pa_cons (pv 8) pa_nil))))) pss_nil) p2, ?_⟩
  rintro D sa da c k2 s2 m b r n i ke tn σ H ⟨La, p, w, u9, u10, u11, u13, u14, u15, u16, u17, u18, u19, u20, rfl, L, ok, hw, hlt, hss, hi, hke⟩ hm hn hr' kk
  obtain ⟨s, hs⟩ : ∃ s, p.ss[i]? = some s := ⟨_, List.getElem?_eq_getElem hi⟩
  have sok := ok.sq s (List.mem_of_getElem? hs)
  obtain ⟨a, dx, xs, hls, hxi, ho, q, kq⟩ := L.sq hs
  refine ⟨_, rfl, _, rfl, s2, xs, _, .ref a.p, rfl, rfl, sqL hls, at_of (j := i) rfl hxi, a.p, Cs, dx, _, _, rfl, ho, T.clS, T.sSt, sf_st, rfl, _, rfl, ?_⟩
  have okm := ok.mono (Nat.le_refl b) (Nat.le_succ r)
  have off : s.st ≠ .leading → decide (V.str s.st.str = V.str "leading") = false := fun h => by
    cases hst : s.st with
    | asking => exact (by decide +kernel : decide (V.str "asking" = V.str "leading") = false)
    | leading => exact absurd hst h
    | stopped => exact (by decide +kernel : decide (V.str "stopped" = V.str "leading") = false)
  by_cases hst : s.st = .leading
  · rw [hst, show decide (V.str Sd.leading.str = V.str "leading") = true from (by decide +kernel : decide (V.str "leading" = V.str "leading") = true)]
    have hrow := sok.row
    have hrt : rowTop = 1000 := rfl
    refine iteT ⟨_, rfl, _, rfl, s2, xs, _, .ref a.p, rfl, rfl, sqL hls, at_of (j := i) rfl hxi, a.p, dx, _, rfl, ho, by rfl, _, rfl, a, s, _, rfl, q, hst, by omega, fun H1 q1 k1 => ?_⟩
    have L1 := kq a _ H1 rfl q1 (fun b hb => .inl hb) k1
    obtain ⟨dc, gl, sl, ll, a2, dx2, xs2, hc, hsl, hx2, ho2, q2', kq2⟩ := L1.cnSq hs
    refine ⟨_, rfl, c, Cc, dc, _, _, rfl, hc, T.clC, T.cSe, cf_s, _, rfl, sl, xs2, _, .ref a2.p, rfl, rfl, sqL hsl, at_of (j := i) rfl hx2, a2.p, dx2, _, rfl, ho2, by rfl, _, rfl, a2, s, _, rfl, q2', hst, by omega, fun H2 q3 k2' => ?_⟩
    have L2' := kq2 _ H2 q3 k2'
    refine q2 D sa da c k2 s2 m b (r + 1) n i ke tn _ _ ⟨La, _, w, _, _, _, _, _, _, _, _, _, _, _, rfl, L2', okm.setSq (sok.add _), hw, hlt, ?_, ?_, hke⟩ hm hn kk
    · rw [List.length_set]; exact hss
    · rw [List.length_set]; exact hi
  · rw [off hst]
    exact iteF (q2 D sa da c k2 s2 m b (r + 1) n i ke tn _ _ ⟨La, p, w, _, _, _, _, _, _, _, _, _, _, _, rfl, L, okm, hw, hlt, hss, hi, hke⟩ hm hn kk)
end
end K49

/-! K49B1: the law's deeds: flush, fall, stop. -/
namespace K49
open PySem PySem.Spec PyProof.Rows L2
theorem hear_stop {s : Sq} {k : Int} : s.hear (.refused s.ep 0 k) = { s with st := .stopped } := by
  unfold Sq.hear
  by_cases h : s.st = .stopped
  · rw [if_pos (.inr h)]
    cases s
    simp only at h
    rw [h]
  · rw [if_neg (fun z => z.elim (fun z => z rfl) h)]
section
variable {P : Program} {w : World} {K : PySem.W.Frag} {mg : Str → Option Value} {base : Heap} {Cr Ck Cs Cc Cb : Addr} {f : Addr} {cdv : Value} {A : Around} {outer : List Env} {s0 : Shared} {H0 : Hp} {E0' : XK}
theorem b_flush (F : Lf P w K mg base Cr Ck Cs Cc Cb) (hr : Room 7 (LX P w K mg base f cdv A outer s0 H0 E0').A) : ∃ t, PSs (LX P w K mg base f cdv A outer s0 H0 E0') (ifThen dFlush) t ∧ ∀ (D : Ends) (sa da c k2 s2 : Addr) (m b r n i ke tn : Nat) (σ : L2.St) (H : Hp),
    Rdy K Ck Cs Cc sa da c k2 s2 m b r n i ke tn σ H → b ≤ 1000 → n ≤ 80000 → (∀ σ H', Lp K Ck Cs Cc sa da c k2 s2 m b r (n + b) σ H' → D.nx σ H') → t D σ H := by
  obtain ⟨fS, fdS, GS, bS, mS⟩ := F.kFlush.ex
  obtain ⟨fC, fdC, GC, bC, mC⟩ := F.cFlush.ex
  have T := F.T
  have hr1 : Room 1 _ := hr.mono (by decide)
  have hr2 : Room 2 _ := hr.mono (by decide)
  refine ⟨_, pss_cons (ps_set (i := 7) scLaw.nd rfl (Or.inl rfl) (pe_op op_cat (pv 7) (pe_callTy call_list_of (by rfl) T.b.list (by decide +kernel) (pa_cons
      (pe_meth0 (pe_ix ix_list (pv 5) (pv 12) (fun _ _ => rfl)) T.clK mS GS hr1 bS .nil pass0) pa_nil))))
    (pss_one (ps_expr (pe_meth (pv 4) T.clC mC GC hr2 bC .nil pass0 (pa_cons (pv 12) pa_nil)))), ?_⟩
  rintro D sa da c k2 s2 m b r n i ke tn σ H ⟨La, p, w, u9, u10, u11, u13, u14, u15, u16, u17, u18, u19, u20, rfl, L, ok, hw, hlt, hss, hi, hke⟩ hb hn kk
  obtain ⟨k, hk⟩ : ∃ k, p.ks[ke]? = some k := ⟨_, List.getElem?_eq_getElem (by rw [ok.len]; exact hke)⟩
  have kok := (ok.num _ _ hk).2
  have hs1 := kok.size
  have hs2 := kok.wsize
  obtain ⟨a, dx, fs, xs, hls, hxi, ho, q, hnf, kq⟩ := L.kp hk
  obtain ⟨vl, hl, hlq⟩ := L.le
  have e1 := hlq.length
  refine ⟨_, rfl, _, rfl, _, rfl, k2, xs, _, .ref a, rfl, rfl, sqL hls, at_of (j := ke) rfl hxi, a, dx, _, rfl, ho, hnf _ (by rfl), a, k, rfl, q, by omega, fun v H1 hv q1 k1 => ?_⟩
  have L1 := kq _ H1 q1 k1
  rw [← Sde.at'_some hk] at L1
  have hla : La ≠ a := q.offL hl
  have hl1 := k1.keep _ _ hl hla
  have hlq1 := Pd.mono (fun _ _ z => LtV.mono k1.tup z) hlq
  obtain ⟨t, us, rfl, ht, hu⟩ := hv
  have e2 := hu.length
  refine ⟨t, us, rfl, .inr (sqT ht), fun q1 nq1 => ?_⟩
  have k2' : Kpt No H1 (upd H1 q1 (.lst us)) := Kpt.new nq1
  have hq1 : upd H1 q1 (.lst us) q1 = some (.lst us) := upd_same
  have hu2 := Pd.mono (fun _ _ z => LtV.mono k2'.tup z) hu
  have L2' := L1.same k2'
  have hl2 := k2'.same _ _ hl1
  have hlq2 := Pd.mono (fun _ _ z => LtV.mono k2'.tup z) hlq1
  generalize upd H1 q1 (.lst us) = H2 at *
  refine ⟨La, q1, vl, us, rfl, rfl, hl2, hq1, small (by omega), fun l nl => ?_⟩
  have L3 := L2'.letters (w' := w ++ k.wait) nl (Pd.app hlq2 hu2)
  generalize upd H2 l (.lst (vl ++ us)) = H3 at *
  obtain ⟨ll, g, C, kc⟩ := L3.cn
  obtain ⟨dxc, hc⟩ := C.ob
  refine ⟨_, rfl, c, dxc, _, rfl, hc, by rfl, _, rfl, ?_⟩
  refine ⟨c, ll, g, p, w, ke, k, rfl, C, hk, by omega, by omega, by omega, kc _ _ _ fun H4 L4 => kk _ _ ?_⟩
  refine ⟨l, _, w ++ k.wait, _, _, _, _, _, _, _, _, _, _, _, _, _, _, rfl, L4, ok.flush ke, ?_, fun x hx => ?_, hss⟩
  · rw [List.length_append]; omega
  · rcases List.mem_append.mp hx with hx | hx
    · exact hlt x hx
    · exact (kok.wait x hx).1
theorem b_fall (F : Lf P w K mg base Cr Ck Cs Cc Cb) (hr : Room 7 (LX P w K mg base f cdv A outer s0 H0 E0').A) : ∃ t, PSs (LX P w K mg base f cdv A outer s0 H0 E0') (ifThen dFall) t ∧ ∀ (D : Ends) (sa da c k2 s2 : Addr) (m b r n i ke tn : Nat) (σ : L2.St) (H : Hp),
    Rdy K Ck Cs Cc sa da c k2 s2 m b r n i ke tn σ H → b ≤ 1000 → (∀ σ H', Lp K Ck Cs Cc sa da c k2 s2 m b r n σ H' → D.nx σ H') → t D σ H := by
  obtain ⟨fS, fdS, GS, bS, mS⟩ := F.kFall.ex
  obtain ⟨fC, fdC, GC, bC, mC⟩ := F.cFall.ex
  obtain ⟨fT, fdT, GT, bT, mT, kT⟩ := F.take.ex
  have T := F.T
  have hr2 : Room 2 _ := hr.mono (by decide)
  have hr3 : Room 3 _ := hr.mono (by decide)
  refine ⟨_, pss_cons (ps_set (i := 13) scLaw.nd rfl (Or.inl rfl) (pe_call GT hr2 rfl mT kT bT .nil pass0 (pa_cons (pv 1) (pa_cons (pe_op op_add (pe_callB call_len_seq (by rfl) T.b.len PySem.boot_len (pa_cons (pe_fld (pe_ix ix_list (pv 5) (pv 12) (fun _ _ => rfl)) rfl) pa_nil)) pe_int) pa_nil))))
    (pss_cons (ps_expr (pe_meth (pe_ix ix_list (pv 5) (pv 12) (fun _ _ => rfl)) T.clK mS GS hr2 bS .nil pass0 (pa_cons (pv 13) pa_nil)))
    (pss_one (ps_expr (pe_meth (pv 4) T.clC mC GC hr3 bC .nil pass0 (pa_cons (pv 12) (pa_cons (pv 13) pa_nil)))))), ?_⟩
  rintro D sa da c k2 s2 m b r n i ke tn σ H ⟨La, p, w, u9, u10, u11, u13, u14, u15, u16, u17, u18, u19, u20, rfl, L, ok, hw, hlt, hss, hi, hke⟩ hb kk
  obtain ⟨k, hk⟩ : ∃ k, p.ks[ke]? = some k := ⟨_, List.getElem?_eq_getElem (by rw [ok.len]; exact hke)⟩
  have kok := (ok.num _ _ hk).2
  have hs1 := kok.size
  obtain ⟨a, dx, fs, xs, hls, hxi, ho, q, hnf, kq⟩ := L.kp hk
  obtain ⟨dx', rv, lv, wv, ho', _, hlo, _⟩ := id q
  obtain ⟨tl, vs, rfl, htl, hvq⟩ := hlo
  have el := hvq.length
  refine ⟨_, rfl, _, rfl, _, rfl, k2, xs, _, .ref a, rfl, rfl, sqL hls, at_of (j := ke) rfl hxi, a, Ck, dx', _, _, rfl, ho', T.clK, T.kLoo, kf_loo, tl, vs, rfl, .inr (sqT htl), _, _, rfl, rfl, da, _, rfl, by omega, L.dr, fun z H1 hz hd1 k1 => ?_⟩
  have L1 := L.draw hd1 k1
  obtain ⟨a, dx, fs, xs, hls, hxi, ho, q, hnf, kq⟩ := L1.kp hk
  refine ⟨_, rfl, _, rfl, k2, xs, _, .ref a, rfl, rfl, sqL hls, at_of (j := ke) rfl hxi, a, dx, _, rfl, ho, hnf _ (by rfl), _, rfl, a, k, z, rfl, q, by omega, by omega, fun H2 q2 k2' => ?_⟩
  have L2' := kq _ H2 q2 k2'
  rw [← Sde.at'_some (f := (·.fall z)) hk] at L2'
  obtain ⟨ll, g, C, kc⟩ := L2'.cn
  obtain ⟨dxc, hc⟩ := C.ob
  refine ⟨_, rfl, c, dxc, _, rfl, hc, by rfl, _, rfl, _, rfl, ?_⟩
  refine ⟨c, ll, g, p, w, ke, z, k, rfl, C, hk, by omega, by omega, kc _ _ _ fun H4 L4 => kk _ _ ?_⟩
  exact ⟨La, _, w, _, _, _, _, _, _, _, _, _, _, _, _, _, _, rfl, L4, ok.fall ke z, hw, hlt, hss⟩
theorem b_stop (F : Lf P w K mg base Cr Ck Cs Cc Cb) (hr : Room 7 (LX P w K mg base f cdv A outer s0 H0 E0').A) : ∃ t, PSs (LX P w K mg base f cdv A outer s0 H0 E0') (ifThen dStop) t ∧ ∀ (D : Ends) (sa da c k2 s2 : Addr) (m b r n i ke tn : Nat) (σ : L2.St) (H : Hp),
    Rdy K Ck Cs Cc sa da c k2 s2 m b r n i ke tn σ H → m ≤ 4 → (∀ σ H', Lp K Ck Cs Cc sa da c k2 s2 m b r n σ H' → D.nx σ H') → t D σ H := by
  obtain ⟨fS, fdS, GS, bS, mS⟩ := F.sHear.ex
  obtain ⟨fC, fdC, GC, bC, mC⟩ := F.cStop.ex
  have T := F.T
  have hr2 : Room 2 _ := hr.mono (by decide)
  have hr1 : Room 1 _ := hr.mono (by decide)
  refine ⟨_, pss_cons (ps_expr (pe_meth (pe_ix ix_list (pv 6) (pv 3) (fun _ _ => rfl)) T.clS mS GS hr2 bS .nil pass0 (pa_cons (pe_tup (pa_cons pe_str (pa_cons (pe_fld (pe_ix ix_list (pv 6) (pv 3) (fun _ _ => rfl)) rfl)
        (pa_cons pe_int (pa_cons (pe_op op_add (pe_fld (pe_ix ix_list (pv 6) (pv 3) (fun _ _ => rfl)) rfl) pe_int) pa_nil))))) pa_nil)))
    (pss_one (ps_expr (pe_meth (pv 4) T.clC mC GC hr1 bC .nil pass0 (pa_cons (pv 3) pa_nil)))), ?_⟩
  rintro D sa da c k2 s2 m b r n i ke tn σ H ⟨La, p, w, u9, u10, u11, u13, u14, u15, u16, u17, u18, u19, u20, rfl, L, ok, hw, hlt, hss, hi, hke⟩ hm kk
  obtain ⟨s, hs⟩ : ∃ s, p.ss[i]? = some s := ⟨_, List.getElem?_eq_getElem hi⟩
  have sok := ok.sq s (List.mem_of_getElem? hs)
  obtain ⟨a, dx, xs, hls, hxi, ho, q, kq⟩ := L.sq hs
  refine ⟨_, rfl, _, rfl, s2, xs, _, .ref a.p, rfl, rfl, sqL hls, at_of (j := i) rfl hxi, a.p, dx, _, rfl, ho, by rfl, _, rfl, _, rfl, s2, xs, _, .ref a.p, rfl, rfl, sqL hls, at_of (j := i) rfl hxi, a.p, Cs, dx, _, _, rfl, ho, T.clS, T.sEp, sf_ep,
    _, rfl, _, rfl, s2, xs, _, .ref a.p, rfl, rfl, sqL hls, at_of (j := i) rfl hxi, a.p, Cs, dx, _, _, rfl, ho, T.clS, T.sEp, sf_ep, _, _, rfl, rfl, (by show 4 ≤ sizeLine; exact small (by decide)), fun t nt => ?_⟩
  have k1 : Kpt No H (upd H t (.tup [.str "refused", .int s.ep, .int 0, .int (s.ep + 1)])) := Kpt.new nt
  have ht : LtV (upd H t (.tup [.str "refused", .int s.ep, .int 0, .int (s.ep + 1)])) (.ref t) (.refused s.ep 0 (s.ep + 1)) := ⟨t, rfl, upd_same⟩
  have L1 := L.same k1
  have hls1 := k1.same _ _ hls
  generalize upd H t (.tup [.str "refused", .int s.ep, .int 0, .int (s.ep + 1)]) = H1 at *
  clear kq
  obtain ⟨a2, dx2, xs2, hls2, hxi2, ho2, q2, kq⟩ := L1.sq hs
  rw [hls1] at hls2
  cases hls2
  rw [hxi] at hxi2
  have ea : a.p = a2.p := V.ref.inj (Option.some.inj hxi2)
  refine ⟨a2, s, _, .refused s.ep 0 (s.ep + 1), m, r, by rw [ea]; rfl, q2, ht, rfl, sok, by omega, ⟨by show 0 < m; omega, fun e n row z => by cases z⟩, fun a' H2 hp' q' hn k2' => ?_⟩
  rw [hear_stop] at q'
  have L2' := kq a' _ H2 hp' q' hn k2'
  obtain ⟨ll, g, C, kc⟩ := L2'.cn
  obtain ⟨dxc, hc⟩ := C.ob
  refine ⟨_, rfl, c, dxc, _, rfl, hc, by rfl, _, rfl, ?_⟩
  refine ⟨c, ll, g, p, w, i, s, rfl, C, hs, kc _ _ _ fun H4 L4 => kk _ _ ?_⟩
  refine ⟨La, _, w, _, _, _, _, _, _, _, _, _, _, _, _, _, _, rfl, L4, ok.setSq sok.stop, hw, hlt, ?_⟩
  rw [List.length_set]; exact hss
end
end K49

/-! K49B2: the law's deeds: exchange. -/
namespace K49
open PySem PySem.Spec PyProof.Rows L2
theorem SdeOk.exch {m b r : Nat} {p : Sde} (h : SdeOk m b r p) {s : Sq} (hs : SqOk m r s) (up : List Nat) (hb : b + m ≤ rowTop) : SdeOk m (b + m) r (p.exch s up) := by
  have h1 := (toSend_ok hs).1
  have h2 := h.gives up s.toSend (by omega)
  exact (h2.replies up).mono (by omega) (Nat.le_refl _)
theorem gives_ss (up : List Nat) : ∀ (w : List Lt) (p : Sde), (w.foldl (Sde.give up) p).ss = p.ss
  | [], _ => rfl
  | l :: w, p => by
    rw [List.foldl_cons, gives_ss up w]
    unfold Sde.give Sde.at'
    split <;> rfl
theorem heards_len : ∀ (w : List Lt) (p : Sde), (w.foldl Sde.heard p).ss.length = p.ss.length
  | [], _ => rfl
  | l :: w, p => by
    rw [List.foldl_cons, heards_len w]
    exact List.length_map ..
theorem reply_len (p : Sde) (n : Nat) : (p.reply n).ss.length = p.ss.length := by
  unfold Sde.reply
  rw [heards_len]
  rfl
theorem replies_len : ∀ (up : List Nat) (p : Sde), (up.foldl Sde.reply p).ss.length = p.ss.length
  | [], _ => rfl
  | n :: up, p => by rw [List.foldl_cons, replies_len up, reply_len]
theorem exch_len (p : Sde) (s : Sq) (up : List Nat) : (p.exch s up).ss.length = p.ss.length := by
  unfold Sde.exch
  rw [replies_len, gives_ss]
section
variable {P : Program} {w : World} {K : PySem.W.Frag} {mg : Str → Option Value} {base : Heap} {Cr Ck Cs Cc Cb : Addr} {f : Addr} {cdv : Value} {A : Around} {outer : List Env} {s0 : Shared} {H0 : Hp} {E0' : XK}
theorem b_exch (F : Lf P w K mg base Cr Ck Cs Cc Cb) (hr : Room 7 (LX P w K mg base f cdv A outer s0 H0 E0').A) : ∃ t, PSs (LX P w K mg base f cdv A outer s0 H0 E0') (ifThen dExch) t ∧ ∀ (D : Ends) (sa da c k2 s2 : Addr) (m b r n i ke tn : Nat) (σ : L2.St) (H : Hp),
    Rdy K Ck Cs Cc sa da c k2 s2 m b r n i ke tn σ H → m ≤ 4 → b + m ≤ 1000 → (∀ σ H', Lp K Ck Cs Cc sa da c k2 s2 m (b + m) r n σ H' → D.nx σ H') → t D σ H := by
  obtain ⟨fS, fdS, GS, bS, mS⟩ := F.sSend.ex
  obtain ⟨fF, fdF, GF, bF, mF⟩ := F.kFlush.ex
  obtain ⟨fH, fdH, GH, bH, mH⟩ := F.kHandle.ex
  obtain ⟨fC, fdC, GC, bC, mC⟩ := F.cExch.ex
  obtain ⟨fT, fdT, GT, bT, mT, kT⟩ := F.take.ex
  obtain ⟨fB, fdB, GB, bB, mB, kB⟩ := F.bring.ex
  have T := F.T
  have hr1 : Room 1 _ := hr.mono (by decide)
  have hr2 : Room 2 _ := hr.mono (by decide)
  have hr5 : Room 5 _ := hr.mono (by decide)
  have hr6 : Room 6 _ := hr.mono (by decide)
  refine ⟨_, pss_cons (ps_setLc (i := 14) (own := [("_law_one", 10)]) (g := gName 10) (tt := tTest (tOp rEq (tCall (spTake K) [] E0 (tCons (tVar 1) (tCons (tC (.int 2)) tNil))) (tC (.int 0)))) (te := tVar 10) rfl scLaw.nd rfl rfl (sw_true rfl rfl rfl (by decide +kernel))
      (pi_range1 rfl T.b.range (pa_cons (pv 2) pa_nil)) (blkOk_by (N := nLaw) (sc := defScope sLaw) (by decide +kernel)) (fun _ _ _ _ _ => pg_name (i := 10) scLaw.nd rfl (Or.inl rfl))
      (fun _ _ _ _ _ => pts_one (pt_cmpR op_eq (pe_call GT hr2 rfl mT kT bT .nil pass0 (pa_cons (pv 1) (pa_cons pe_int pa_nil))) pe_int (nomark _))) (fun _ _ _ _ _ => pv 10))
    (pss_cons (ps_for PassesOwn.never rfl (pi_tup (pe_meth0 (pe_ix ix_list (pv 6) (pv 3) (fun _ _ => rfl)) T.clS mS GS hr1 bS .nil pass0)) (pg_name (i := 15) scLaw.nd rfl (Or.inl rfl))
        (pss_one (ps_if (pt_cmpR op_in_seq (pe_ix ix_tup (pv 15) pe_int (fun _ _ => rfl)) (pv 14) (by rfl))
          (pss_one (ps_expr (pe_meth (pe_ix ix_list (pv 5) (pe_ix ix_tup (pv 15) pe_int (fun _ _ => rfl)) (fun _ _ => rfl)) T.clK mH GH hr5 bH .nil pass0 (pa_cons (pv 15) pa_nil)))) pss_nil)))
    (pss_cons (ps_for PassesOwn.never rfl (pi_list (pv 14)) (pg_name (i := 10) scLaw.nd rfl (Or.inl rfl))
        (pss_one (ps_for PassesOwn.never rfl (pi_tup (pe_meth0 (pe_ix ix_list (pv 5) (pv 10) (fun _ _ => rfl)) T.clK mF GF hr1 bF .nil pass0)) (pg_name (i := 16) scLaw.nd rfl (Or.inl rfl))
          (pss_one (ps_expr (pe_call GB hr6 rfl mB kB bB .nil pass0 (pa_cons (pv 5) (pa_cons (pv 6) (pa_cons (pv 16) pa_nil)))))))))
    (pss_one (ps_expr (pe_meth (pv 4) T.clC mC GC hr6 bC .nil pass0 (pa_cons (pv 3) (pa_cons (pv 14) pa_nil))))))), ?_⟩
  rintro D sa da c k2 s2 m b r n i ke tn σ H ⟨La, p, w, u9, u10, u11, u13, u14, u15, u16, u17, u18, u19, u20, rfl, ⟨ll, g, g2, L⟩, ok, hw, hlt, hss, hi, hke⟩ hm hb kk
  have hrt : rowTop = 1000 := rfl
  obtain ⟨s, hs⟩ : ∃ s, p.ss[i]? = some s := ⟨_, List.getElem?_eq_getElem hi⟩
  have sok := ok.sq s (List.mem_of_getElem? hs)
  have hts := toSend_ok sok
  have en : ((m : Nat) : Int).toNat = m := Int.toNat_natCast _
  -- up
  refine ⟨_, rfl, _, rfl, by omega, by omega, ?_⟩
  rw [en]
  refine fun ua nua => lc_range (lo := 0) (n := m) (fun j H1 => ∃ acc : List Nat, H1 ua = some (.lst (acc.map fun n : Nat => V.int (n : Int))) ∧ acc.length ≤ j ∧ (∀ n ∈ acc, n < m) ∧ DrAt K H1 da ∧ Kpt (fun b => b = da) H H1)
    ⟨[], upd_same, Nat.le_refl _, fun n h => (nomatch h), (L.dr.keep (Kpt.new (M := No) nua) (fun z => z) fun _ z => z.elim), Kpt.new nua⟩ (fun j H1 hj ⟨acc, hD, hal, hac, hdr, k1⟩ => ?_) (fun H1 ⟨up, hD, hal, hup, hdr, k1⟩ => ?_)
  · rw [Int.zero_add]
    refine ⟨rfl, _, rfl, da, _, rfl, by decide, hdr, fun z H2 hz hd2 k2' => ⟨rfl, _, rfl, ?_⟩⟩
    have nda : da ≠ ua := fun z => L.dr.there (by rw [z]; exact nua)
    have hD2 := k2'.keep _ _ hD nda.symm
    have k12 := k1.trans k2'
    refine ite2 (fun _ => ⟨_, rfl, _, hD2, by rw [List.length_map]; exact smallT (by omega), acc ++ [j], by rw [upd_same, List.map_append]; rfl, by rw [List.length_append]; exact Nat.add_le_add_right hal 1, fun n hn => ?_, ?_, k12.up nua⟩) fun _ => ⟨acc, hD2, by omega, hac, hd2, k12⟩
    · rcases List.mem_append.mp hn with hn | hn
      · exact hac n hn
      · rw [List.mem_singleton.mp hn]; exact hj
    · exact hd2.keep (Kpt.wr (M := fun b => b = ua) rfl hD2 lst_tup) nda fun b z o u q => by rw [z, hD2] at q; cases q
  -- the letters
  have nuc : ¬ CnMem c ll g ua := fun z => L.cn.there z nua
  have nug : ¬ Wm g2 ua := fun z => L.sd.there z.mem nua
  have L1 := L.draw hdr k1
  clear k1 nua hdr L
  obtain ⟨a, ha, q⟩ := Pd.get L1.sd.sq hs
  obtain ⟨dx2, ho⟩ := q.ob
  have hls : H1 s2 = some (.lst (g2.sas.map fun a => V.ref a.p)) := by rw [← L1.els]; exact L1.sd.ls
  refine ⟨_, rfl, _, rfl, s2, _, _, .ref a.p, rfl, rfl, sqL hls, at_of (j := i) rfl (by rw [List.getElem?_map, ha]; rfl), a.p, dx2, _, rfl, ho, by rfl, a, s, rfl, q, by rw [sok.many]; omega, by rw [sok.tk, sok.many], fun v H2 hv k2' => ?_⟩
  have L2' := L1.same k2'
  have hD2 := k2'.same _ _ hD
  obtain ⟨t, us, rfl, ht, hu⟩ := hv
  refine ⟨t, rfl, ⟨_, sqT ht⟩, ?_⟩
  refine give_all (K := K) (Cs := Cs) (g := g2) (p := p) (w := s.toSend) (up := up) (m := m) (b := b) (c := r) (tK := tVar 5)
    (fun v => [some (.ref sa), some (.ref da), some (.int m), some (.int i), some (.ref c), some (.ref k2), some (.ref s2), some (.ref La), some (.int tn), u9, u10, u11, some (.int ke), u13, some (.ref ua), v, u16, u17, u18, u19, u20]) u15 (fun _ _ => rfl) (fun _ => rfl) (fun _ => rfl)
    (fun v H' Q k hq => ⟨_, rfl, by rw [← L2'.elk]; exact hq⟩) L2'.sd ht hu hD2 nug ok (by omega) hts.2 fun v15 H3 S3 k3 => ?_
  have ok3 := ok.gives up s.toSend (by omega)
  have hD3 := k3.keep _ _ hD2 nug
  have L3 := L2'.sdStep S3 .refl k3
  refine ⟨_, rfl, ua, rfl, ⟨_, sqL hD3⟩, ?_⟩
  refine reply_all (K := K) (g := g2) (up := up) (m := m) (b := b + s.toSend.length) (c := r) (tK := tVar 5)
    (fun v10 v16 _ => [some (.ref sa), some (.ref da), some (.int m), some (.int i), some (.ref c), some (.ref k2), some (.ref s2), some (.ref La), some (.int tn), u9, v10, u11, some (.int ke), u13, some (.ref ua), v15, v16, u17, u18, u19, u20]) (fun _ _ _ _ => rfl) (fun _ _ _ _ => rfl) (fun _ _ _ => rfl) u10 u16 none
    (fun _ _ _ H' Q k hq => ⟨_, rfl, by rw [← L3.elk]; exact hq⟩) ?_ S3 hD3 nug ok3 (by omega) hup fun v10 v16 _ g4 H4 r4 k4 S4 => ?_
  · intro D' v10 lv v6 l g1 p1 H4 r1 k4 S4 hlv hans ok4 kn
    refine ⟨_, rfl, _, rfl, _, rfl, g1, p1, lv, l, m, b + s.toSend.length, r, ?_, S4, hlv, hans.1, ok4, by omega, by omega, fun g5 H5 r5 k5 S5 => ?_⟩
    · rw [r1.lk, r1.ls, L3.elk, L3.els]; rfl
    · have e : p1.bring l = p1.heard l := by unfold Sde.bring; rw [if_neg (by rw [hans.2]; exact Bool.false_ne_true)]
      rw [e] at S5
      exact kn none g5 H5 r5 k5 S5
  · have L4 := L3.sdStep S4 r4 k4
    have hD4 := k4.keep _ _ hD3 nug
    obtain ⟨dxc, hc⟩ := L4.cn.ob
    refine ⟨_, rfl, c, dxc, _, rfl, hc, by rfl, _, rfl, _, rfl, c, ll, g, p, w, i, s, ua, up, m, b, r, rfl, L4.cn, hs, ok, by omega, by omega, hD4, nuc, hup, fun g5 H5 C5 mm5 k5 => kk _ _ ?_⟩
    have L5 := L4.cnStep C5 mm5 k5
    exact ⟨La, _, w, _, _, _, _, _, _, _, _, _, _, _, _, _, _, rfl, ⟨ll, g5, g4, L5⟩, ok.exch sok up (by omega), hw, hlt, by rw [exch_len]; exact hss⟩
end
end K49

/-! K49B3: the law's deeds: a letter is lost, a letter comes. -/
namespace K49
open PySem PySem.Spec PyProof.Rows L2
theorem cut_suf (xs : List V) (i : Nat) (h : i + 1 ≤ xs.length) : cutV xs (some ((i : Int) + 1)) none = xs.drop (i + 1) := by
  unfold cutV
  rw [show ((i : Int) + 1) = ((i + 1 : Nat) : Int) by omega, HT.sIx_nat, HT.sIx_none, Nat.min_eq_left h]
  rw [List.take_of_length_le (by rw [List.length_drop]; exact Nat.le_refl _)]
theorem eqvAll_nil (d : PyData) (r : List PyData) : PyData.eqv (.list (d :: r)) (.list []) = false := by rfl
/-- within a turn: letter z was drawn -/
def Rdz (K : PySem.W.Frag) (Ck Cs Cc sa da c k2 s2 : Addr) (m b r n i ke tn z : Nat) (σ : L2.St) (H : Hp) : Prop :=
  ∃ (La : Addr) (p : Sde) (w : List Lt) (u9 u10 u11 u13 u14 u15 u16 u18 u19 u20 : Option V),
    σ = [some (.ref sa), some (.ref da), some (.int m), some (.int i), some (.ref c), some (.ref k2), some (.ref s2), some (.ref La), some (.int tn), u9, u10, u11, some (.int ke), u13, u14, u15, u16, some (.int z), u18, u19, u20] ∧
    LwAt K Ck Cs Cc da c La k2 s2 H p p w w ∧ SdeOk m b r p ∧ w.length ≤ n ∧ (∀ l ∈ w, LtOk m l) ∧ p.ss.length ≤ 4 ∧ z < w.length
theorem bring_len (p : Sde) (l : Lt) : (p.bring l).ss.length = p.ss.length := by
  unfold Sde.bring
  split
  · rfl
  · exact List.length_map ..
abbrev dAtIf : Stmt := (ifThen dAt).getD 1 noS
section
variable {P : Program} {w : World} {K : PySem.W.Frag} {mg : Str → Option Value} {base : Heap} {Cr Ck Cs Cc Cb : Addr} {f : Addr} {cdv : Value} {A : Around} {outer : List Env} {s0 : Shared} {H0 : Hp} {E0' : XK}
theorem mem_erase {m z : Nat} {w : List Lt} (h : ∀ l ∈ w, LtOk m l) : ∀ l ∈ w.eraseIdx z, LtOk m l := fun l hl => h l (List.mem_of_mem_eraseIdx hl)
theorem b_lose (F : Lf P w K mg base Cr Ck Cs Cc Cb) (hr : Room 7 (LX P w K mg base f cdv A outer s0 H0 E0').A) : ∃ t, PSs (LX P w K mg base f cdv A outer s0 H0 E0') (ifThen dAtIf) t ∧ ∀ (D : Ends) (sa da c k2 s2 : Addr) (m b r n i ke tn z : Nat) (σ : L2.St) (H : Hp),
    Rdz K Ck Cs Cc sa da c k2 s2 m b r n i ke tn z σ H → n ≤ 80000 → (∀ σ H', Lp K Ck Cs Cc sa da c k2 s2 m b r n σ H' → D.nx σ H') → t D σ H := by
  obtain ⟨fC, fdC, GC, bC, mC⟩ := F.cLose.ex
  have T := F.T
  have hr2 : Room 2 _ := hr.mono (by decide)
  refine ⟨_, pss_cons (ps_set (i := 7) scLaw.nd rfl (Or.inl rfl) (pe_op op_cat (pe_slice sl_list (pv 7) po_none (po_some (pv 17))) (pe_slice sl_list (pv 7) (po_some (pe_op op_add (pv 17) pe_int)) po_none)))
    (pss_one (ps_expr (pe_meth (pv 4) T.clC mC GC hr2 bC .nil passL (pa_cons (pv 17) pa_nil)))), ?_⟩
  rintro D sa da c k2 s2 m b r n i ke tn z σ H ⟨La, p, w, u9, u10, u11, u13, u14, u15, u16, u18, u19, u20, rfl, L, ok, hw, hlt, hss, hz⟩ hn kk
  obtain ⟨vl, hl, hlq⟩ := L.le
  have e1 := hlq.length
  refine ⟨_, rfl, _, rfl, _, rfl, La, vl, rfl, sqL hl, fun l1 n1 => ?_⟩
  rw [cut_pre]
  have k1 : Kpt No H (upd H l1 (.lst (vl.take z))) := Kpt.new n1
  have h1 : upd H l1 (.lst (vl.take z)) l1 = some (.lst (vl.take z)) := upd_same
  have L1 := L.same k1
  have hl1 := k1.same _ _ hl
  have hlq1 := Pd.mono (fun _ _ z => LtV.mono k1.tup z) hlq
  generalize upd H l1 (.lst (vl.take z)) = H1 at *
  refine ⟨_, rfl, _, rfl, _, _, rfl, rfl, _, rfl, La, vl, rfl, sqL hl1, fun l2 n2 => ?_⟩
  rw [cut_suf _ _ (by omega)]
  have k2' : Kpt No H1 (upd H1 l2 (.lst (vl.drop (z + 1)))) := Kpt.new n2
  have h2 : upd H1 l2 (.lst (vl.drop (z + 1))) l2 = some (.lst (vl.drop (z + 1))) := upd_same
  have L2' := L1.same k2'
  have h12 := k2'.same _ _ h1
  have hlq2 := Pd.mono (fun _ _ z => LtV.mono k2'.tup z) hlq1
  generalize upd H1 l2 (.lst (vl.drop (z + 1))) = H2 at *
  refine ⟨l1, l2, _, _, rfl, rfl, h12, h2, by rw [List.length_take, List.length_drop]; exact small (by omega), fun l3 n3 => ?_⟩
  rw [← List.eraseIdx_eq_take_drop_succ]
  have L3 := L2'.letters n3 (Pd.erase z hlq2)
  generalize upd H2 l3 (.lst (vl.eraseIdx z)) = H3 at *
  obtain ⟨ll, g, C, kc⟩ := L3.cn
  obtain ⟨dxc, hc⟩ := C.ob
  refine ⟨_, rfl, c, dxc, _, rfl, hc, by rfl, _, rfl, c, ll, g, p, w, _, rfl, C, by omega, .inl ⟨z, rfl, hz, kc _ _ _ fun H4 L4 => kk _ _ ?_⟩⟩
  exact ⟨l3, p, _, _, _, _, _, _, _, _, _, _, _, _, _, _, _, rfl, L4, ok, Nat.le_trans (List.length_eraseIdx_le ..) hw, mem_erase hlt, hss⟩
theorem b_come (F : Lf P w K mg base Cr Ck Cs Cc Cb) (hr : Room 7 (LX P w K mg base f cdv A outer s0 H0 E0').A) : ∃ t, PSs (LX P w K mg base f cdv A outer s0 H0 E0') (ifElse dAtIf) t ∧ ∀ (D : Ends) (sa da c k2 s2 : Addr) (m b r n i ke tn z : Nat) (σ : L2.St) (H : Hp),
    Rdz K Ck Cs Cc sa da c k2 s2 m b r n i ke tn z σ H → n ≤ 80000 → m ≤ 4 → b ≤ 900 → (∀ σ H', Lp K Ck Cs Cc sa da c k2 s2 m (b + 1) r n σ H' → D.nx σ H') → t D σ H := by
  obtain ⟨fC, fdC, GC, bC, mC⟩ := F.cDeliver.ex
  obtain ⟨fT, fdT, GT, bT, mT, kT⟩ := F.take.ex
  obtain ⟨fB, fdB, GB, bB, mB, kB⟩ := F.bring.ex
  have T := F.T
  have hr2 : Room 2 _ := hr.mono (by decide)
  have hr6 : Room 6 _ := hr.mono (by decide)
  refine ⟨_, pss_cons (ps_par (i := 18) (j := 15) rfl scLaw.nd rfl rfl (by decide) rfl rfl (pa_cons (pe_cmpR op_eq (pe_call GT hr2 rfl mT kT bT .nil pass0 (pa_cons (pv 1) (pa_cons pe_int pa_nil))) pe_int (nomark _)) (pa_cons (pe_ix ix_list (pv 7) (pv 17) (fun _ _ => rfl)) pa_nil)) (by rfl))
    (pss_cons (ps_set (i := 7) scLaw.nd rfl (Or.inl rfl) (pe_ifExp (pt_val (pv 18)) (pv 7) (pe_op op_cat (pe_slice sl_list (pv 7) po_none (po_some (pv 17))) (pe_slice sl_list (pv 7) (po_some (pe_op op_add (pv 17) pe_int)) po_none))))
    (pss_cons (ps_expr (pe_call GB hr6 rfl mB kB bB .nil pass0 (pa_cons (pv 5) (pa_cons (pv 6) (pa_cons (pv 15) pa_nil)))))
    (pss_one (ps_expr (pe_meth (pv 4) T.clC mC GC hr6 bC .nil passL (pa_cons (pv 17) (pa_cons (pv 18) pa_nil))))))), ?_⟩
  rintro D sa da c k2 s2 m b r n i ke tn z σ H ⟨La, p, w, u9, u10, u11, u13, u14, u15, u16, u18, u19, u20, rfl, L, ok, hw, hlt, hss, hz⟩ hn hm hb kk
  have hrt : rowTop = 1000 := rfl
  refine ⟨_, rfl, da, _, rfl, by decide, L.dr, fun y H1 hy hd1 k1 => ?_⟩
  have L1 := L.draw hd1 k1
  clear L k1 hd1
  obtain ⟨vl, hl, hlq⟩ := L1.le
  have e1 := hlq.length
  obtain ⟨l, hwl⟩ : ∃ l, w[z]? = some l := ⟨_, List.getElem?_eq_getElem hz⟩
  obtain ⟨v, hv, hvl⟩ := Pd.get hlq hwl
  have lok := hlt l (List.mem_of_getElem? hwl)
  refine ⟨rfl, _, rfl, _, rfl, La, vl, _, v, rfl, rfl, sqL hl, at_of (j := z) rfl hv, _, _, rfl, ?_⟩
  -- from bring on
  have rest : ∀ (kept : Bool) (La' : Addr) (w' : List Lt) (H2 : Hp), w' = (if kept = true then w else w.eraseIdx z) → LwAt K Ck Cs Cc da c La' k2 s2 H2 p p w w' → LtV H2 v l →
      tSeq (tDrop (tCall (spBring Ck Cs) [] E0 (tCons (tVar 5) (tCons (tVar 6) (tCons (tVar 15) tNil))))) (tDrop (tMeth Cc "deliver" (spCnDeliver Ck Cs Cc Cb) [] E0 (tVar 4) (tCons (tVar 17) (tCons (tVar 18) tNil)))) D
        [some (.ref sa), some (.ref da), some (.int m), some (.int i), some (.ref c), some (.ref k2), some (.ref s2), some (.ref La'), some (.int tn), u9, u10, u11, some (.int ke), u13, u14, some v, u16, some (.int z), some (.bl kept), u19, u20] H2 := by
    intro kept La' w' H2 ew LL hvl2
    obtain ⟨g2, rfl, rfl, S, ks⟩ := LL.sd
    refine ⟨_, rfl, _, rfl, _, rfl, g2, p, v, l, m, b, r, rfl, S, hvl2, lok, ok, by omega, by omega, fun g5 H5 r5 k5 S5 => ?_⟩
    have L5 := ks g5 H5 _ r5 k5 S5
    obtain ⟨ll, g, C, kc⟩ := L5.cn
    obtain ⟨dxc, hc⟩ := C.ob
    refine ⟨_, rfl, c, dxc, _, rfl, hc, by rfl, _, rfl, _, rfl, c, ll, g, p, w, _, kept, m, b, r, rfl, C, by omega, ok, by omega, by omega, hlt, .inl ⟨z, l, rfl, hwl, kc _ _ _ fun H6 L6 => kk _ _ ?_⟩⟩
    rw [← ew] at L6
    refine ⟨La', _, w', _, _, _, _, _, _, _, _, _, _, _, _, _, _, rfl, L6, ok.bring (by omega) lok, ?_, ?_, by rw [bring_len]; exact hss⟩
    · rw [ew]
      cases kept with
      | true => exact hw
      | false => exact Nat.le_trans (List.length_eraseIdx_le ..) hw
    · rw [ew]
      cases kept with
      | true => exact hlt
      | false => exact mem_erase hlt
  refine ⟨_, rfl, _, rfl, ?_⟩
  refine ite2 (fun h => ?_) fun h => ?_
  · rw [h]
    exact ⟨_, rfl, rest true La w H1 rfl L1 hvl⟩
  · have h' : decide (V.int (y : Int) = V.int 0) = false := by
      cases q : decide (V.int (y : Int) = V.int 0) with
      | true => exact absurd q h
      | false => rfl
    rw [h']
    refine ⟨_, rfl, _, rfl, _, rfl, La, vl, rfl, sqL hl, fun l1 n1 => ?_⟩
    rw [cut_pre]
    have k1 : Kpt No H1 (upd H1 l1 (.lst (vl.take z))) := Kpt.new n1
    have h1 : upd H1 l1 (.lst (vl.take z)) l1 = some (.lst (vl.take z)) := upd_same
    have L2' := L1.same k1
    have hl1 := k1.same _ _ hl
    have hlq1 := Pd.mono (fun _ _ z => LtV.mono k1.tup z) hlq
    have hvl1 := hvl.mono k1.tup
    generalize upd H1 l1 (.lst (vl.take z)) = H2 at *
    refine ⟨_, rfl, _, rfl, _, _, rfl, rfl, _, rfl, La, vl, rfl, sqL hl1, fun l2 n2 => ?_⟩
    rw [cut_suf _ _ (by omega)]
    have k2' : Kpt No H2 (upd H2 l2 (.lst (vl.drop (z + 1)))) := Kpt.new n2
    have h2 : upd H2 l2 (.lst (vl.drop (z + 1))) l2 = some (.lst (vl.drop (z + 1))) := upd_same
    have L3' := L2'.same k2'
    have h12 := k2'.same _ _ h1
    have hlq2 := Pd.mono (fun _ _ z => LtV.mono k2'.tup z) hlq1
    have hvl2 := hvl1.mono k2'.tup
    generalize upd H2 l2 (.lst (vl.drop (z + 1))) = H3 at *
    refine ⟨l1, l2, _, _, rfl, rfl, h12, h2, by rw [List.length_take, List.length_drop]; exact small (by omega), fun l3 n3 => ?_⟩
    rw [← List.eraseIdx_eq_take_drop_succ]
    have L4 := L3'.letters n3 (Pd.erase z hlq2)
    have k3 : Kpt No H3 (upd H3 l3 (.lst (vl.eraseIdx z))) := Kpt.new n3
    exact rest false l3 (w.eraseIdx z) _ rfl L4 (hvl2.mono k3.tup)
theorem b_at (F : Lf P w K mg base Cr Ck Cs Cc Cb) (hr : Room 7 (LX P w K mg base f cdv A outer s0 H0 E0').A) : ∃ t, PSs (LX P w K mg base f cdv A outer s0 H0 E0') (ifElse dStop) t ∧ ∀ (D : Ends) (sa da c k2 s2 : Addr) (m b r n i ke tn : Nat) (σ : L2.St) (H : Hp),
    Rdy K Ck Cs Cc sa da c k2 s2 m b r n i ke tn σ H → n ≤ 80000 → m ≤ 4 → b ≤ 900 → (∀ σ H', Lp K Ck Cs Cc sa da c k2 s2 m (b + 1) r n σ H' → D.nx σ H') → t D σ H := by
  obtain ⟨tl, pl, ql⟩ := b_lose F hr
  obtain ⟨tc, pc, qc⟩ := b_come F hr
  obtain ⟨fT, fdT, GT, bT, mT, kT⟩ := F.take.ex
  have T := F.T
  have hr2 : Room 2 _ := hr.mono (by decide)
  refine ⟨_, pss_one (ps_if (pt_cmpR (op_neD hr.units) (pv 7) (pe_lst pa_nil) (nomark _))
      (pss_cons (ps_set (i := 17) scLaw.nd rfl (Or.inl rfl) (pe_call GT hr2 rfl mT kT bT .nil pass0 (pa_cons (pv 1) (pa_cons (pe_callB call_len_seq (by rfl) T.b.len PySem.boot_len (pa_cons (pv 7) pa_nil)) pa_nil))))
      (pss_one (ps_if (pt_cmpR op_eq (pe_call GT hr2 rfl mT kT bT .nil pass0 (pa_cons (pv 1) (pa_cons pe_int pa_nil))) pe_int (nomark _)) pl pc))) pss_nil), ?_⟩
  rintro D sa da c k2 s2 m b r n i ke tn σ H ⟨La, p, w, u9, u10, u11, u13, u14, u15, u16, u17, u18, u19, u20, rfl, L, ok, hw, hlt, hss, hi, hke⟩ hn hm hb kk
  obtain ⟨vl, hl, hlq⟩ := L.le
  refine ⟨_, rfl, (by show 0 ≤ sizeLine; exact Nat.zero_le _), fun q nq => ?_⟩
  have k1 : Kpt No H (upd H q (.lst [])) := Kpt.new nq
  have hq : upd H q (.lst []) q = some (.lst []) := upd_same
  have L1 := L.same k1
  generalize upd H q (.lst []) = H1 at *
  obtain ⟨vl, hl, hlq⟩ := L1.le
  have e1 := hlq.length
  refine ⟨.list (w.map ltD), .list [], .lst (sqL hl) (dpAll (fun _ _ z => LtV.dp z) hlq), .lst (sqL hq) .nil, OkD.shaped (n := 4) (OkD.lst (mapD_ok ltD_ok w)) (by decide), OkD.shaped (n := 4) (OkD.lst fun _ h => (nomatch h)) (by decide), _, rfl, ?_⟩
  cases w with
  | nil =>
    refine iteF (kk _ _ ?_)
    exact ⟨La, p, [], _, _, _, _, _, _, _, _, _, _, _, _, _, _, rfl, L1, ok.mono (Nat.le_succ _) (Nat.le_refl _), hw, hlt, hss⟩
  | cons l w =>
    refine iteT ⟨_, rfl, _, rfl, La, vl, rfl, .inl (sqL hl), da, _, rfl, by rw [e1]; show (0 : Int) < ((w.length + 1 : Nat) : Int); omega, L1.dr, fun z H2 hz hd2 k2' => ?_⟩
    have L2' := L1.draw hd2 k2'
    refine ⟨_, rfl, da, _, rfl, by decide, L2'.dr, fun y H3 hy hd3 k3 => ⟨rfl, _, rfl, ?_⟩⟩
    have L3 := L2'.draw hd3 k3
    have hz' : z < (l :: w).length := by omega
    refine ite2 (fun _ => ?_) fun _ => ?_
    · exact ql D sa da c k2 s2 m b r n i ke tn z _ _ ⟨La, p, l :: w, _, _, _, _, _, _, _, _, _, _, rfl, L3, ok, hw, hlt, hss, hz'⟩ hn fun σ H' h => kk σ H' (h.mono (Nat.le_succ _) (Nat.le_refl _) (Nat.le_refl _))
    · exact qc D sa da c k2 s2 m b r n i ke tn z _ _ ⟨La, p, l :: w, _, _, _, _, _, _, _, _, _, _, rfl, L3, ok, hw, hlt, hss, hz'⟩ hn hm hb kk
end
end K49

/-! K49B4: the law begins a sequencer. -/
namespace K49
open PySem PySem.Spec PyProof.Rows L2
theorem pigeon : ∀ (xs l : List Int), xs.Nodup → (∀ x ∈ xs, x ∈ l) → xs.length ≤ l.length
  | [], l, _, _ => Nat.zero_le _
  | x :: xs, l, hn, h => by
    have hx := h x (List.mem_cons_self ..)
    have hn' := List.nodup_cons.mp hn
    have h1 := pigeon xs (l.erase x) hn'.2 fun y hy => by
      have ne : y ≠ x := fun z => hn'.1 (z ▸ hy)
      exact (List.mem_erase_of_ne ne).mpr (h y (List.mem_cons_of_mem _ hy))
    have h2 := List.length_erase_of_mem hx
    have h3 := List.length_pos_of_mem hx
    rw [List.length_cons]
    omega
/-- one of 0 .. 8 is none of four -/
theorem some_free (l : List Int) (h : l.length ≤ 4) : ∃ j : Nat, j < 9 ∧ ¬ ((j : Nat) : Int) ∈ l := by
  refine Classical.byContradiction fun hc => ?_
  have h1 := pigeon ((List.range 9).map fun n : Nat => (n : Int)) l (by decide) fun x hx => by
    obtain ⟨j, hj, rfl⟩ := List.mem_map.mp hx
    exact Classical.byContradiction fun z => hc ⟨j, List.mem_range.mp hj, z⟩
  rw [List.length_map, List.length_range] at h1
  omega
section
variable {K : PySem.W.Frag} {Ck Cs Cc : Addr} {da c La k2 s2 ll : Addr} {g g2 g' : Sg} {H H' : Hp} {pc pl p' : Sde} {wc wl w' : List Lt}
/-- the law's side begins a sequencer -/
theorem LwG.sdAdd (L : LwG K Ck Cs Cc da c La k2 s2 ll g g2 H pc pl wc wl) {a : SA} {s : Sq} (q : SqAt Cs H a s) (f1 : ∀ b, a.mem b → ¬ CnMem c ll g b) (f2 : ∀ b, a.mem b → ¬ g2.mem b) (f3 : ¬ a.mem La) (f4 : ¬ a.mem da) :
    LwG K Ck Cs Cc da c La k2 s2 ll g { g2 with sas := g2.sas ++ [a] } (upd H g2.ls (.lst ((g2.sas.map fun a => V.ref a.p) ++ [.ref a.p]))) pc { pl with ss := pl.ss ++ [s] } wc wl := by
  have k : Kpt (fun b => b = g2.ls) H (upd H g2.ls (.lst ((g2.sas.map fun a => V.ref a.p) ++ [.ref a.p]))) := Kpt.wr rfl L.sd.ls lst_tup
  have hm : g2.mem g2.ls := .inr (.inl rfl)
  obtain ⟨vs, e, hq⟩ := L.le
  have mm : ∀ b, Sg.mem { g2 with sas := g2.sas ++ [a] } b → g2.mem b ∨ a.mem b := fun b hb => by
    rcases hb with hb | hb | hb | hb
    · exact .inl (.inl hb)
    · exact .inl (.inr (.inl hb))
    · exact .inl (.inr (.inr (.inl hb)))
    · rcases Sg.add_mem hb with z | z
      · exact .inl (.inr (.inr (.inr z)))
      · exact .inr z
  refine ⟨L.cn.mono k fun b hb z => L.sep b hb (z ▸ hm), L.sd.add q f2, L.elk, L.els, ⟨vs, k.keep _ _ e fun z => L.l2 (z ▸ hm), Pd.mono (fun _ _ z => LtV.mono k.tup z) hq⟩, L.dr.keep k (fun z => L.d2 (z ▸ hm)) fun b hb o u z => ?_, fun b hb z => ?_, L.lc, fun z => ?_, L.ld, L.dc, fun z => ?_⟩
  · rw [hb, L.sd.ls] at z; cases z
  · rcases mm b z with y | y
    · exact L.sep b hb y
    · exact f1 b y hb
  · rcases mm La z with y | y
    · exact L.l2 y
    · exact f3 y
  · rcases mm da z with y | y
    · exact L.d2 y
    · exact f4 y
end
/-- within a turn: the kind was drawn; at least lo sequencers -/
def Rdk (K : PySem.W.Frag) (Ck Cs Cc sa da c k2 s2 : Addr) (m b r n tn kd lo up : Nat) (σ : L2.St) (H : Hp) : Prop :=
  ∃ (La : Addr) (p : Sde) (w : List Lt) (u3 u10 u11 u12 u13 u14 u15 u16 u17 u18 u19 u20 : Option V),
    σ = [some (.ref sa), some (.ref da), some (.int m), u3, some (.ref c), some (.ref k2), some (.ref s2), some (.ref La), some (.int tn), some (.int kd), u10, u11, u12, u13, u14, u15, u16, u17, u18, u19, u20] ∧
    LwAt K Ck Cs Cc da c La k2 s2 H p p w w ∧ SdeOk m b r p ∧ w.length ≤ n ∧ (∀ l ∈ w, LtOk m l) ∧ p.ss.length ≤ up ∧ lo ≤ p.ss.length
abbrev scOne : Scope := ⟨.function, [(".0", .local), ("_law_one", .local), ("_law_sequencers", .cell)], false, false, []⟩
section
variable {P : Program} {w : World} {K : PySem.W.Frag} {mg : Str → Option Value} {base : Heap} {Cr Ck Cs Cc Cb : Addr} {f : Addr} {cdv : Value} {A : Around} {outer : List Env} {s0 : Shared} {H0 : Hp} {E0' : XK}
theorem b_begin (F : Lf P w K mg base Cr Ck Cs Cc Cb) (hr : Room 7 (LX P w K mg base f cdv A outer s0 H0 E0').A) : ∃ t, PSs (LX P w K mg base f cdv A outer s0 H0 E0') (ifThen (turnS 1)) t ∧ ∀ (D : Ends) (sa da c k2 s2 : Addr) (m b r n tn kd : Nat) (σ : L2.St) (H : Hp),
    Rdk K Ck Cs Cc sa da c k2 s2 m b r n tn kd 0 3 σ H →
    m ≤ 4 → b ≤ 900 → n ≤ 80000 → (∀ σ H', Rdk K Ck Cs Cc sa da c k2 s2 m b r n tn kd 1 4 σ H' → D.nx σ H') → t D σ H := by
  obtain ⟨fK, fdK, GK, bK, mK, kK⟩ := F.pick.ex
  obtain ⟨fB, fdB, GB, bB, mB, kB⟩ := F.bars.ex
  obtain ⟨fI, fdI, GI, bI, MI⟩ := F.sInit.ex
  obtain ⟨fC, fdC, GC, bC, mC⟩ := F.cBegin.ex
  have T := F.T
  have hr2 : Room 2 _ := hr.mono (by decide)
  have hr3 : Room 3 _ := hr.mono (by decide)
  refine ⟨_, pss_cons (ps_set (i := 11) scLaw.nd rfl (Or.inl rfl) (pe_call GK hr3 rfl mK kK bK .nil pass0 (pa_cons (pv 1) (pa_cons
      (pe_lc (own := [("_law_one", 10)]) (g := gName 10) (tt := tTest (tOp (rIn K true) (tVar 10) (tLc (iList K (tVar 6)) (gName 20) tYes (tFld K (tVar 20) "epoch") [20]))) (te := tVar 10) rfl scLaw.nd
        (pi_range1 rfl T.b.range (pa_cons pe_int pa_nil)) (blkOk_by (N := nLaw) (sc := defScope sLaw) (by decide +kernel)) (fun _ _ _ _ _ => pg_name (i := 10) scLaw.nd rfl (Or.inl rfl))
        (fun _ _ _ _ _ => pts_one (pt_cmpR op_notIn_seq (pv 10)
          (pe_lc (own := [("_law_late", 20)]) (g := gName 20) (tt := tYes) (te := tFld K (tVar 20) "epoch") rfl scLaw.nd (pi_list (pv 6)) (blkOk_by (N := nLaw) (sc := scOne) (by decide +kernel))
            (fun _ _ _ _ _ => pg_name (i := 20) scLaw.nd rfl (Or.inl rfl)) (fun _ _ _ _ _ => pts_nil) (fun _ _ _ _ _ => pe_fld (pv 20) rfl)) (by rfl)))
        (fun _ _ _ _ _ => pv 10)) pa_nil))))
    (pss_cons (ps_expr (pe_bm PySem.F.plainAttrs_list PySem.F.slot_list_append PySem.F.type_list_append mt_append (pv 6) (pa_cons (pe_make MI GI hr2 rfl T.mS bI .nil pass0 (pa_cons (pv 11) (pa_cons (pv 2) pa_nil))) pa_nil)))
    (pss_one (ps_if (PW.pt (pw_or (pt_cmpR op_ne (pe_meth (pv 4) T.clC mC GC hr3 bC .nil passL (pa_cons (pv 11) pa_nil)) (pe_op op_sub (pe_callB call_len_seq (by rfl) T.b.len PySem.boot_len (pa_cons (pv 6) pa_nil)) pe_int) (nomark _))
        (pw_or1 (pt_not (pt_val (pe_call GB hr rfl mB kB bB .nil pass0 (pa_cons (pv 4) (pa_cons pe_int (pa_cons (pv 11) pa_nil)))))))))
      pss_never pss_nil))), ?_⟩
  rintro D sa da c k2 s2 m b r n tn kd σ H ⟨La, p, w, u3, u10, u11, u12, u13, u14, u15, u16, u17, u18, u19, u20, rfl, ⟨ll, g, g2, L⟩, ok, hw, hlt, hss, _⟩ hm hb hn kk
  have hrt : rowTop = 1000 := rfl
  -- the epochs that are free
  refine ⟨_, rfl, _, rfl, by decide, by decide, fun ea nea => lc_range (lo := 0) (n := 9) (fun j H1 => ∃ acc : List Int, H1 ea = some (.lst (acc.map V.int)) ∧ acc.length ≤ j ∧ (∀ e ∈ acc, 0 ≤ e ∧ e < 9 ∧ ¬ e ∈ p.ss.map (·.ep)) ∧ (∀ i : Nat, i < j → ¬ ((i : Nat) : Int) ∈ p.ss.map (·.ep) → ((i : Nat) : Int) ∈ acc) ∧ Kpt No H H1)
    ⟨[], upd_same, Nat.le_refl _, fun n h => (nomatch h), fun i h => (nomatch h), Kpt.new nea⟩ (fun j H1 hj ⟨acc, hD, hal, hac, hco, k1⟩ => ?_) (fun H1 ⟨acc, hD, hal, hac, hco, k1⟩ => ?_)⟩
  · rw [Int.zero_add]
    have L1 := L.same k1
    have hls : H1 s2 = some (.lst (g2.sas.map fun a => V.ref a.p)) := by rw [← L1.els]; exact L1.sd.ls
    refine ⟨rfl, _, rfl, _, rfl, s2, rfl, ⟨_, sqL hls⟩, ?_⟩
    rw [← L1.els]
    refine fun D2 nD2 => epochs_lc (K := K) (σ := [some (.ref sa), some (.ref da), some (.int m), u3, some (.ref c), some (.ref k2), some (.ref g2.ls), some (.ref La), some (.int tn), some (.int kd), some (.int (j : Nat)), u11, u12, u13, u14, u15, u16, u17, u18, u19, u20]) (v := 20) T L1.sd (Nat.lt_succ_self 20) (by omega) nD2 fun H2 hD2 k2' => ?_
    have hDa := k2'.same _ _ hD
    have k12 := k1.trans k2'
    refine ⟨D2, _, rfl, .inl (sqL hD2), rfl, flat_ints _, _, rfl, ?_⟩
    rw [if_pos rfl, inV_ep]
    by_cases hin : ((j : Nat) : Int) ∈ p.ss.map (·.ep)
    · rw [decide_eq_true hin]
      refine iteF ⟨acc, hDa, by omega, hac, fun i hi hni => ?_, k12⟩
      by_cases hij : i = j
      · exact absurd (hij ▸ hin) hni
      · exact hco i (by omega) hni
    · rw [decide_eq_false hin]
      refine iteT ⟨_, rfl, _, hDa, by rw [List.length_map]; exact smallT (by omega), acc ++ [((j : Nat) : Int)], by rw [upd_same, List.map_append]; rfl, by rw [List.length_append]; exact Nat.add_le_add_right hal 1, fun e he => ?_, fun i hi hni => ?_, k12.up nea⟩
      · rcases List.mem_append.mp he with he | he
        · exact hac e he
        · rw [List.mem_singleton.mp he]
          exact ⟨by omega, by omega, hin⟩
      · by_cases hij : i = j
        · rw [hij]; exact List.mem_append_right _ (List.mem_singleton.mpr rfl)
        · exact List.mem_append_left _ (hco i (by omega) hni)
  have L1 := L.same k1
  have nda : ea ≠ da := fun z => L.dr.there (by rw [← z]; exact nea)
  obtain ⟨j0, hj0, hf0⟩ := some_free (p.ss.map (·.ep)) (by rw [List.length_map]; omega)
  have hne : acc.map V.int ≠ [] := fun z => by
    have h1 := hco j0 hj0 hf0
    rw [List.map_eq_nil_iff.mp z] at h1
    cases h1
  refine ⟨da, ea, _, rfl, hne, hD, nda, L1.dr, fun x H2 hx hd2 k2' => ?_⟩
  obtain ⟨e, he, rfl⟩ := List.mem_map.mp hx
  obtain ⟨e0, e9, hnew⟩ := hac e he
  have L2' := L1.draw hd2 k2'
  clear L L1 hD hco hac hal k1 k2' hd2 hx he hne nda nea hf0
  have hls : H2 s2 = some (.lst (g2.sas.map fun a => V.ref a.p)) := by rw [← L2'.els]; exact L2'.sd.ls
  have hsl := L2'.sd.sq.length
  -- sequencers.append(Sequencer(epoch, many))
  refine ⟨_, rfl, .inl ⟨rfl, _, sqL hls⟩, _, rfl, _, rfl, fun x dx2 nx ndx nex => ?_⟩
  have k3 : Kpt No H2 (upd (upd H2 dx2 (.own x)) x (.ins Cs dx2 [])) := by
    have s1 : Kpt No H2 (upd H2 dx2 (.own x)) := Kpt.new ndx
    exact s1.trans (Kpt.new (by rw [upd_ne nex.symm]; exact nx))
  refine ⟨x, dx2, e, m, rfl, upd_same, by omega, fun a H3 eap S3 mm3 k4 => ⟨rfl, ?_⟩⟩
  subst eap
  have k34 : Kpt No H2 H3 := k3.then (k4.mono (N := fun b => b = a.p) fun _ z => z) fun b z => .inr (by rw [z]; exact nx)
  have fr : ∀ b, a.mem b → H2 b = none := fun b hb => by
    rcases mm3 b hb with z | z
    · rw [z]; exact nx
    · exact k3.same.free z
  have L3 := L2'.same k34
  have L4 := L3.sdAdd S3 (fun b hb z => L2'.cn.there z (fr b hb)) (fun b hb z => L2'.sd.there z (fr b hb)) (fun z => L2'.le_there (fr _ z)) (fun z => L2'.dr.there (fr _ z))
  have hls3 := k34.same _ _ hls
  refine ⟨s2, _, _, rfl, rfl, hls3, by rw [List.length_map]; exact smallT (by omega), ?_⟩
  rw [L2'.els] at L4
  generalize upd H3 s2 (.lst ((g2.sas.map fun a => V.ref a.p) ++ [.ref a.p])) = H4 at *
  -- council.begin(epoch)
  obtain ⟨dxc, hc⟩ := L4.cn.ob
  refine ⟨_, rfl, c, dxc, _, rfl, hc, by rfl, _, rfl, c, ll, g, p, w, _, rfl, L4.cn, by rw [ok.len]; omega, by omega, .inl ⟨e, rfl, ⟨e0, by omega⟩, hnew, fun g5 H5 C5 mm5 k5 => ?_⟩⟩
  have L5 := L4.cnStep C5 mm5 k5
  rw [ok.len] at L5
  have hls5 : H5 s2 = some (.lst ((g2.sas ++ [a]).map fun a => V.ref a.p)) := by rw [← L5.els]; exact L5.sd.ls
  refine ⟨_, rfl, s2, _, rfl, .inl (sqL hls5), _, _, rfl, rfl, rfl, _, rfl, ?_⟩
  have el : (((g2.sas ++ [a]).map fun a => V.ref a.p).length : Int) - 1 = ((p.ss.length : Nat) : Int) := by
    rw [List.length_map, List.length_append, hsl]
    show ((p.ss.length + 1 : Nat) : Int) - 1 = _
    omega
  have ed : decide (V.int ((p.ss.length : Nat) : Int) = (fun i j => V.int (i - j)) ((((g2.sas ++ [a]).map fun a => V.ref a.p).length : Nat) : Int) 1) = true := decide_eq_true (by show V.int _ = V.int _; rw [el])
  rw [ed]
  have okn : SdeOk m b r { p with ss := p.ss ++ [.new e m] } := ⟨ok.len, ok.num, fun s hs => by
    rcases List.mem_append.mp hs with hs | hs
    · exact ok.sq s hs
    · rw [List.mem_singleton.mp hs]; exact SqOk.new e m r⟩
  have hln : (p.ss ++ [Sq.new e m]).length = p.ss.length + 1 := by rw [List.length_append]; rfl
  refine iteF ⟨_, rfl, _, rfl, c, ll, g5, _, w, _, 0, m, b, r, rfl, L5.cn, by omega, by show (p.ss ++ [Sq.new e m]).length ≤ 1000; omega, okn, by omega, by omega, hlt, .inl ⟨rfl, .inl ⟨e, rfl, .inr ?_⟩⟩, fun H6 k6 => ?_⟩
  · show e ∈ (p.ss ++ [Sq.new e m]).map (·.ep)
    rw [List.map_append]
    exact List.mem_append_right _ (List.mem_singleton.mpr rfl)
  · refine ⟨_, rfl, iteF (kk _ _ ?_)⟩
    have L6 := L5.same k6
    exact ⟨La, _, w, _, _, _, _, _, _, _, _, _, _, _, _, rfl, ⟨ll, g5, _, L6⟩, okn, hw, hlt, by show (p.ss ++ [Sq.new e m]).length ≤ 4; omega, by show 1 ≤ (p.ss ++ [Sq.new e m]).length; omega⟩
theorem b_maybe (F : Lf P w K mg base Cr Ck Cs Cc Cb) (hr : Room 7 (LX P w K mg base f cdv A outer s0 H0 E0').A) : ∃ t, PS (LX P w K mg base f cdv A outer s0 H0 E0') (turnS 1) t ∧ ∀ (D : Ends) (sa da c k2 s2 : Addr) (m b r n tn kd : Nat) (σ : L2.St) (H : Hp),
    Rdk K Ck Cs Cc sa da c k2 s2 m b r n tn kd 0 4 σ H →
    m ≤ 4 → b ≤ 900 → n ≤ 80000 → (∀ σ H', Rdk K Ck Cs Cc sa da c k2 s2 m b r n tn kd 1 4 σ H' → D.nx σ H') → t D σ H := by
  obtain ⟨tb, pb, qb⟩ := b_begin F hr
  have T := F.T
  refine ⟨_, ps_if (PW.pt (pw_or (PW.pt (pw_and (pt_cmpR op_eq (pv 9) pe_int (nomark _)) (pw_and1 (pt_cmpR op_lt (pe_callB call_len_seq (by rfl) T.b.len PySem.boot_len (pa_cons (pv 6) pa_nil)) pe_int (nomark _)))))
      (pw_or1 (pt_cmpR (op_eqNil hr.units) (pv 6) (pe_lst pa_nil) (nomark _))))) pb pss_nil, ?_⟩
  rintro D sa da c k2 s2 m b r n tn kd σ H ⟨La, p, w, u3, u10, u11, u12, u13, u14, u15, u16, u17, u18, u19, u20, rfl, L, ok, hw, hlt, hss, _⟩ hm hb hn kk
  -- the second half of the test
  have half : tIfS (tTest (tOp (rEqNil K) (tVar 6) (tLst tNil))) tb tNext D [some (.ref sa), some (.ref da), some (.int m), u3, some (.ref c), some (.ref k2), some (.ref s2), some (.ref La), some (.int tn), some (.int kd), u10, u11, u12, u13, u14, u15, u16, u17, u18, u19, u20] H := by
    refine ⟨_, rfl, (by show 0 ≤ sizeLine; exact Nat.zero_le _), fun q nq => ?_⟩
    have k1 : Kpt No H (upd H q (.lst [])) := Kpt.new nq
    have hq : upd H q (.lst []) q = some (.lst []) := upd_same
    have L1 := L.same k1
    generalize upd H q (.lst []) = H1 at *
    obtain ⟨g2, e1, e2, S, _⟩ := L1.sd
    have hls := S.ls
    rw [e2] at hls
    have hsl := S.sq.length
    refine ⟨s2, q, _, rfl, rfl, sqL hls, sqL hq, _, rfl, ?_⟩
    cases hp : p.ss with
    | nil =>
      rw [hp] at hsl
      have eg : g2.sas = [] := List.length_eq_zero_iff.mp (by rw [hsl]; rfl)
      rw [eg]
      exact iteT (qb D sa da c k2 s2 m b r n tn kd _ _ ⟨La, p, w, _, _, _, _, _, _, _, _, _, _, _, _, rfl, L1, ok, hw, hlt, by rw [hp]; exact Nat.zero_le _, Nat.zero_le _⟩ hm hb hn kk)
    | cons s ss =>
      rw [hp] at hsl
      cases eg : g2.sas with
      | nil => rw [eg] at hsl; cases hsl
      | cons a as =>
        refine iteF (kk _ _ ?_)
        exact ⟨La, p, w, _, _, _, _, _, _, _, _, _, _, _, _, rfl, L1, ok, hw, hlt, hss, by rw [hp]; exact Nat.succ_le_succ (Nat.zero_le _)⟩
  refine ⟨_, rfl, rfl, _, rfl, ?_⟩
  refine ite2 (fun h => ?_) fun h => ?_
  · obtain ⟨g2, e1, e2, S, _⟩ := L.sd
    have hls := S.ls
    rw [e2] at hls
    have hsl := S.sq.length
    refine ⟨_, rfl, s2, _, rfl, .inl (sqL hls), _, _, rfl, rfl, _, rfl, ?_⟩
    by_cases h4 : p.ss.length < 4
    · have el : decide ((((g2.sas.map fun a => V.ref a.p).length : Nat) : Int) < 4) = true := decide_eq_true (by rw [List.length_map]; omega)
      rw [el]
      exact iteT (iteT (qb D sa da c k2 s2 m b r n tn kd _ _ ⟨La, p, w, _, _, _, _, _, _, _, _, _, _, _, _, rfl, L, ok, hw, hlt, by omega, Nat.zero_le _⟩ hm hb hn kk))
    · have el : decide ((((g2.sas.map fun a => V.ref a.p).length : Nat) : Int) < 4) = false := decide_eq_false (by rw [List.length_map]; omega)
      rw [el]
      exact iteF half
  · exact iteF half
end
end K49

/-! K49B5: a turn of the law, the loop. -/
namespace K49
open PySem PySem.Spec PyProof.Rows L2
section
variable {P : Program} {w : World} {K : PySem.W.Frag} {mg : Str → Option Value} {base : Heap} {Cr Ck Cs Cc Cb : Addr} {f : Addr} {cdv : Value} {A : Around} {outer : List Env} {s0 : Shared} {H0 : Hp} {E0' : XK}
/-- within a turn: kind kd, sequencer i, keeper ke were drawn -/
def Rdd (K : PySem.W.Frag) (Ck Cs Cc sa da c k2 s2 : Addr) (m b r n i ke tn kd : Nat) (σ : L2.St) (H : Hp) : Prop :=
  ∃ (La : Addr) (p : Sde) (w : List Lt) (u10 u11 u13 u14 u15 u16 u17 u18 u19 u20 : Option V),
    σ = [some (.ref sa), some (.ref da), some (.int m), some (.int i), some (.ref c), some (.ref k2), some (.ref s2), some (.ref La), some (.int tn), some (.int kd), u10, u11, some (.int ke), u13, u14, u15, u16, u17, u18, u19, u20] ∧
    LwAt K Ck Cs Cc da c La k2 s2 H p p w w ∧ SdeOk m b r p ∧ w.length ≤ n ∧ (∀ l ∈ w, LtOk m l) ∧ p.ss.length ≤ 4 ∧ i < p.ss.length ∧ ke < m
theorem Rdd.rdy {Ck Cs Cc sa da c k2 s2 : Addr} {m b r n i ke tn kd : Nat} {σ : L2.St} {H : Hp} (h : Rdd K Ck Cs Cc sa da c k2 s2 m b r n i ke tn kd σ H) : Rdy K Ck Cs Cc sa da c k2 s2 m b r n i ke tn σ H := by
  obtain ⟨La, p, w, u10, u11, u13, u14, u15, u16, u17, u18, u19, u20, e, L, ok, hw, hlt, hss, hi, hke⟩ := h
  exact ⟨La, p, w, _, u10, u11, u13, u14, u15, u16, u17, u18, u19, u20, e, L, ok, hw, hlt, hss, hi, hke⟩
theorem b_deed (F : Lf P w K mg base Cr Ck Cs Cc Cb) (hr : Room 7 (LX P w K mg base f cdv A outer s0 H0 E0').A) : ∃ t, PS (LX P w K mg base f cdv A outer s0 H0 E0') dSend t ∧ ∀ (D : Ends) (sa da c k2 s2 : Addr) (m b r n i ke tn kd : Nat) (σ : L2.St) (H : Hp),
    Rdd K Ck Cs Cc sa da c k2 s2 m b r n i ke tn kd σ H → m ≤ 4 → b ≤ 290 → n ≤ 79000 → r ≤ 900 → (∀ σ H', Lp K Ck Cs Cc sa da c k2 s2 m (b + 4) (r + 1) (n + 300) σ H' → D.nx σ H') → t D σ H := by
  obtain ⟨t1, p1, q1⟩ := b_send F hr
  obtain ⟨t2, p2, q2⟩ := b_flush F hr
  obtain ⟨t3, p3, q3⟩ := b_fall F hr
  obtain ⟨t4, p4, q4⟩ := b_exch F hr
  obtain ⟨t5, p5, q5⟩ := b_stop F hr
  obtain ⟨t6, p6, q6⟩ := b_at F hr
  obtain ⟨fT, fdT, GT, bT, mT, kT⟩ := F.take.ex
  have hr2 : Room 2 _ := hr.mono (by decide)
  refine ⟨_, ps_if (pt_cmpR op_lt (pv 9) pe_int (nomark _)) p1 (pss_one (ps_if (pt_cmpR op_eq (pv 9) pe_int (nomark _)) p2 (pss_one (ps_if (pt_cmpR op_eq (pv 9) pe_int (nomark _)) p3
      (pss_one (ps_if (PW.pt (pw_and (pt_cmpR op_eq (pv 9) pe_int (nomark _)) (pw_and1 (pt_cmpR op_eq (pe_call GT hr2 rfl mT kT bT .nil pass0 (pa_cons (pv 1) (pa_cons pe_int pa_nil))) pe_int (nomark _))))) p4
      (pss_one (ps_if (PW.pt (pw_and (pt_cmpR op_eq (pv 9) pe_int (nomark _)) (pw_and1 (pt_cmpR op_eq (pe_call GT hr2 rfl mT kT bT .nil pass0 (pa_cons (pv 1) (pa_cons pe_int pa_nil))) pe_int (nomark _))))) p5 p6)))))))), ?_⟩
  rintro D sa da c k2 s2 m b r n i ke tn kd σ H R hm hb hn hr' kk
  have k' : ∀ {b' r' n' : Nat}, b' ≤ b + 4 → r' ≤ r + 1 → n' ≤ n + 300 → ∀ σ H', Lp K Ck Cs Cc sa da c k2 s2 m b' r' n' σ H' → D.nx σ H' := fun h1 h2 h3 σ H' h => kk σ H' (h.mono h1 h2 h3)
  have e6 : ∀ σ H, Rdy K Ck Cs Cc sa da c k2 s2 m b r n i ke tn σ H → t6 D σ H := fun σ H R => q6 D sa da c k2 s2 m b r n i ke tn σ H R (by omega) hm (by omega) (k' (by omega) (by omega) (by omega))
  obtain ⟨La, p, w, u10, u11, u13, u14, u15, u16, u17, u18, u19, u20, rfl, L, ok, hw, hlt, hss, hi, hke⟩ := id R
  refine ⟨_, rfl, _, _, rfl, rfl, _, rfl, ?_⟩
  refine ite2 (fun _ => q1 D sa da c k2 s2 m b r n i ke tn _ _ R.rdy hm (by omega) (by omega) (k' (by omega) (by omega) (by omega))) fun _ => ⟨_, rfl, rfl, _, rfl, ?_⟩
  refine ite2 (fun _ => q2 D sa da c k2 s2 m b r n i ke tn _ _ R.rdy (by omega) (by omega) (k' (by omega) (by omega) (by omega))) fun _ => ⟨_, rfl, rfl, _, rfl, ?_⟩
  refine ite2 (fun _ => q3 D sa da c k2 s2 m b r n i ke tn _ _ R.rdy (by omega) (k' (by omega) (by omega) (by omega))) fun _ => ⟨_, rfl, rfl, _, rfl, ?_⟩
  -- stop, or a letter
  have later : ∀ H1, LwAt K Ck Cs Cc da c La k2 s2 H1 p p w w → tIfS (tAnd (tTest (tOp rEq (tVar 9) (tC (.int 6)))) (tTest (tOp rEq (tCall (spTake K) [] E0 (tCons (tVar 1) (tCons (tC (.int 8)) tNil))) (tC (.int 0))))) t5 t6 D
      [some (.ref sa), some (.ref da), some (.int m), some (.int i), some (.ref c), some (.ref k2), some (.ref s2), some (.ref La), some (.int tn), some (.int kd), u10, u11, some (.int ke), u13, u14, u15, u16, u17, u18, u19, u20] H1 := by
    intro H1 L1
    refine ⟨_, rfl, rfl, _, rfl, ?_⟩
    refine ite2 (fun _ => ?_) fun _ => ?_
    · refine ⟨_, rfl, da, _, rfl, by decide, L1.dr, fun z H2 hz hd2 k2' => ⟨rfl, _, rfl, ?_⟩⟩
      have L2' := L1.draw hd2 k2'
      have R2 : Rdy K Ck Cs Cc sa da c k2 s2 m b r n i ke tn [some (.ref sa), some (.ref da), some (.int m), some (.int i), some (.ref c), some (.ref k2), some (.ref s2), some (.ref La), some (.int tn), some (.int kd), u10, u11, some (.int ke), u13, u14, u15, u16, u17, u18, u19, u20] H2 := ⟨La, p, w, _, _, _, _, _, _, _, _, _, _, _, rfl, L2', ok, hw, hlt, hss, hi, hke⟩
      exact ite2 (fun _ => q5 D sa da c k2 s2 m b r n i ke tn _ _ R2 hm (k' (by omega) (by omega) (by omega))) fun _ => e6 _ _ R2
    · exact iteF (e6 _ _ ⟨La, p, w, _, _, _, _, _, _, _, _, _, _, _, rfl, L1, ok, hw, hlt, hss, hi, hke⟩)
  refine ite2 (fun _ => ?_) fun _ => ?_
  · refine ⟨_, rfl, da, _, rfl, by decide, L.dr, fun z H2 hz hd2 k2' => ⟨rfl, _, rfl, ?_⟩⟩
    have L2' := L.draw hd2 k2'
    have R2 : Rdy K Ck Cs Cc sa da c k2 s2 m b r n i ke tn [some (.ref sa), some (.ref da), some (.int m), some (.int i), some (.ref c), some (.ref k2), some (.ref s2), some (.ref La), some (.int tn), some (.int kd), u10, u11, some (.int ke), u13, u14, u15, u16, u17, u18, u19, u20] H2 := ⟨La, p, w, _, _, _, _, _, _, _, _, _, _, _, rfl, L2', ok, hw, hlt, hss, hi, hke⟩
    exact ite2 (fun _ => q4 D sa da c k2 s2 m b r n i ke tn _ _ R2 hm (by omega) (k' (by omega) (by omega) (by omega))) fun _ => later H2 L2'
  · exact iteF (later H L)
theorem b_check (F : Lf P w K mg base Cr Ck Cs Cc Cb) (hr : Room 7 (LX P w K mg base f cdv A outer s0 H0 E0').A) : ∃ t, PS (LX P w K mg base f cdv A outer s0 H0 E0') (turnS 4) t ∧ ∀ (D : Ends) (sa da c k2 s2 : Addr) (m b r n : Nat) (σ : L2.St) (H : Hp),
    Lp K Ck Cs Cc sa da c k2 s2 m b r n σ H → 1 ≤ m → m ≤ 4 → n ≤ 90000 → (∀ σ H', Lp K Ck Cs Cc sa da c k2 s2 m b r n σ H' → D.nx σ H') → t D σ H := by
  obtain ⟨fL, fdL, GL, bL, mL, kL⟩ := F.looks.ex
  have T := F.T
  have hr3 : Room 3 _ := hr.mono (by decide)
  refine ⟨_, ps_if (PW.pt (pw_or (pt_cmpR (op_neD hr.units) (pe_callTy call_list_of (by rfl) T.b.list (by decide +kernel) (pa_cons (pe_fld (pv 4) rfl) pa_nil)) (pv 7) (nomark _))
      (pw_or1 (pt_cmpR (op_neD hr.units) (pe_call GL hr3 rfl mL kL bL .nil pass0 (pa_cons (pe_fld (pv 4) rfl) (pa_cons (pe_fld (pv 4) rfl) pa_nil))) (pe_call GL hr3 rfl mL kL bL .nil pass0 (pa_cons (pv 5) (pa_cons (pv 6) pa_nil))) (nomark _))))) pss_never pss_nil, ?_⟩
  rintro D sa da c k2 s2 m b r n σ H ⟨La, p, w, u3, u8, u9, u10, u11, u12, u13, u14, u15, u16, u17, u18, u19, u20, rfl, ⟨ll, g, g2, L⟩, ok, hw, hlt, hss⟩ hm1 hm hn kk
  obtain ⟨dxc, hc⟩ := L.cn.ob
  obtain ⟨vc, hlc, hcq⟩ := L.cn.le
  refine ⟨_, rfl, c, Cc, dxc, _, _, rfl, hc, T.clC, T.cLe, cf_l, ll, vc, rfl, .inl (sqL hlc), fun q nq => ?_⟩
  have k1 : Kpt No H (upd H q (.lst vc)) := Kpt.new nq
  have hq : upd H q (.lst vc) q = some (.lst vc) := upd_same
  have hcq1 := Pd.mono (fun _ _ z => LtV.mono k1.tup z) hcq
  have L1 := L.same k1
  have hc1 := k1.same _ _ hc
  generalize upd H q (.lst vc) = H1 at *
  obtain ⟨vl, hl, hlq⟩ := L1.le
  have okw : OkD 4 (.list (w.map ltD)) := OkD.lst (mapD_ok ltD_ok w)
  refine ⟨_, rfl, .list (w.map ltD), .list (w.map ltD), .lst (sqL hq) (dpAll (fun _ _ z => LtV.dp z) hcq1), .lst (sqL hl) (dpAll (fun _ _ z => LtV.dp z) hlq), okw.shaped (by decide), okw.shaped (by decide), _, rfl, ?_⟩
  rw [okw.eqv]
  refine iteF ⟨_, rfl, c, Cc, dxc, _, _, rfl, hc1, T.clC, T.cKe, cf_k, _, rfl, c, Cc, dxc, _, _, rfl, hc1, T.clC, T.cSe, cf_s, g, p, m, b, r, rfl, L1.cn.sd, ok, hm1, by omega, by omega, fun v1 H2 hv1 k2' => ?_⟩
  have L2' := L1.same k2'
  refine ⟨_, rfl, _, rfl, g2, p, m, b, r, by rw [L2'.elk, L2'.els]; rfl, L2'.sd, ok, hm1, by omega, by omega, fun v2 H3 hv2 k3 => ?_⟩
  have L3 := L2'.same k3
  have okl := lkD_ok p
  refine ⟨lkD p, lkD p, dp_mono k3.same hv1, hv2, okl.shaped (by decide), okl.shaped (by decide), _, rfl, ?_⟩
  rw [okl.eqv]
  exact iteF (kk _ _ ⟨La, p, w, _, _, _, _, _, _, _, _, _, _, _, _, _, _, rfl, ⟨ll, g, g2, L3⟩, ok, hw, hlt, hss⟩)
/-- a turn -/
theorem b_turn (F : Lf P w K mg base Cr Ck Cs Cc Cb) (hr : Room 7 (LX P w K mg base f cdv A outer s0 H0 E0').A) : ∃ t, PSs (LX P w K mg base f cdv A outer s0 H0 E0') (forBody ((defBody sLaw).getD 3 noS)) t ∧ ∀ (D : Ends) (sa da c k2 s2 : Addr) (m b r n tn : Nat) (σ : L2.St) (H : Hp),
    Lp K Ck Cs Cc sa da c k2 s2 m b r n σ H → 1 ≤ m → m ≤ 4 → b ≤ 290 → n ≤ 79000 → r ≤ 900 → (∀ σ H', Lp K Ck Cs Cc sa da c k2 s2 m (b + 4) (r + 1) (n + 300) σ H' → D.nx σ H') → t D (σ.set 8 (some (.int (tn : Nat)))) H := by
  obtain ⟨t1, p1, q1⟩ := b_maybe F hr
  obtain ⟨t2, p2, q2⟩ := b_deed F hr
  obtain ⟨t3, p3, q3⟩ := b_check F hr
  obtain ⟨fT, fdT, GT, bT, mT, kT⟩ := F.take.ex
  have T := F.T
  have hr2 : Room 2 _ := hr.mono (by decide)
  refine ⟨_, pss_cons (ps_set (i := 9) scLaw.nd rfl (Or.inl rfl) (pe_call GT hr2 rfl mT kT bT .nil pass0 (pa_cons (pv 1) (pa_cons pe_int pa_nil))))
    (pss_cons p1
    (pss_cons (ps_par (i := 3) (j := 12) rfl scLaw.nd rfl rfl (by decide) rfl rfl (pa_cons (pe_call GT hr2 rfl mT kT bT .nil pass0 (pa_cons (pv 1) (pa_cons (pe_callB call_len_seq (by rfl) T.b.len PySem.boot_len (pa_cons (pv 6) pa_nil)) pa_nil)))
        (pa_cons (pe_call GT hr2 rfl mT kT bT .nil pass0 (pa_cons (pv 1) (pa_cons (pv 2) pa_nil))) pa_nil)) (by rfl))
    (pss_cons p2 (pss_one p3)))), ?_⟩
  rintro D sa da c k2 s2 m b r n tn σ H ⟨La, p, w, u3, u8, u9, u10, u11, u12, u13, u14, u15, u16, u17, u18, u19, u20, rfl, L, ok, hw, hlt, hss⟩ hm1 hm hb hn hr' kk
  refine ⟨_, rfl, da, _, rfl, by decide, L.dr, fun kd H1 hz hd1 k1 => ?_⟩
  refine q1 _ sa da c k2 s2 m b r n tn kd _ _ ⟨La, p, w, _, _, _, _, _, _, _, _, _, _, _, _, rfl, L.draw hd1 k1, ok, hw, hlt, hss, Nat.zero_le _⟩ hm (by omega) (by omega) ?_
  clear L k1 hd1 ok hw hlt hss
  rintro σ H2 ⟨La, p, w, u3, u10, u11, u12, u13, u14, u15, u16, u17, u18, u19, u20, rfl, L, ok, hw, hlt, hss, hlo⟩
  obtain ⟨g2, e1, e2, S, _⟩ := L.sd
  have hls := S.ls
  rw [e2] at hls
  have hsl := S.sq.length
  refine ⟨_, rfl, _, rfl, s2, _, rfl, .inl (sqL hls), da, _, rfl, by rw [List.length_map]; omega, L.dr, fun i H3 hi hd3 k3 => ?_⟩
  have L3 := L.draw hd3 k3
  rw [List.length_map] at hi
  refine ⟨_, rfl, _, rfl, da, _, rfl, by omega, L3.dr, fun ke H4 hke hd4 k4 => ?_⟩
  have L4 := L3.draw hd4 k4
  refine ⟨_, _, rfl, ?_⟩
  refine q2 _ sa da c k2 s2 m b r n i ke tn kd _ _ ⟨La, p, w, _, _, _, _, _, _, _, _, _, _, rfl, L4, ok, hw, hlt, hss, by omega, by omega⟩ hm hb hn hr' fun σ H5 h5 => ?_
  exact q3 _ sa da c k2 s2 m (b + 4) (r + 1) (n + 300) _ _ h5 hm1 hm (by omega) kk
/-- the loop -/
theorem b_loop (F : Lf P w K mg base Cr Ck Cs Cc Cb) (hr : Room 7 (LX P w K mg base f cdv A outer s0 H0 E0').A) : ∃ t, PS (LX P w K mg base f cdv A outer s0 H0 E0') ((defBody sLaw).getD 3 noS) t ∧ ∀ (D : Ends) (sa da c k2 s2 : Addr) (m : Nat) (σ : L2.St) (H : Hp),
    Lp K Ck Cs Cc sa da c k2 s2 m 0 0 0 σ H → 1 ≤ m → m ≤ 4 → (∀ σ H', Lp K Ck Cs Cc sa da c k2 s2 m 280 70 21000 σ H' → D.nx σ H') → t D σ H := by
  obtain ⟨t1, p1, q1⟩ := b_turn F hr
  obtain ⟨fT, fdT, GT, bT, mT, kT⟩ := F.take.ex
  have T := F.T
  have hr2 : Room 2 _ := hr.mono (by decide)
  refine ⟨_, ps_for PassesOwn.never rfl (pi_range1 rfl T.b.range (pa_cons (pe_op op_add pe_int (pe_call GT hr2 rfl mT kT bT .nil pass0 (pa_cons (pv 1) (pa_cons pe_int pa_nil)))) pa_nil)) (pg_name (i := 8) scLaw.nd rfl (Or.inl rfl)) p1, ?_⟩
  rintro D sa da c k2 s2 m σ H h hm1 hm kk
  obtain ⟨La, p, w, u3, u8, u9, u10, u11, u12, u13, u14, u15, u16, u17, u18, u19, u20, rfl, L, ok, hw, hlt, hss⟩ := id h
  refine ⟨_, rfl, da, _, rfl, by decide, L.dr, fun z H1 hz hd1 k1 => ?_⟩
  have L1 := L.draw hd1 k1
  have h1 : Lp K Ck Cs Cc sa da c k2 s2 m 0 0 0 [some (.ref sa), some (.ref da), some (.int m), u3, some (.ref c), some (.ref k2), some (.ref s2), some (.ref La), u8, u9, u10, u11, u12, u13, u14, u15, u16, u17, u18, u19, u20] H1 := ⟨La, p, w, _, _, _, _, _, _, _, _, _, _, _, _, _, _, rfl, L1, ok, hw, hlt, hss⟩
  refine ⟨_, _, rfl, rfl, _, rfl, by omega, by omega, ?_⟩
  have en : ((30 : Int) + (z : Int)).toNat = 30 + z := by omega
  rw [en]
  refine for_range (lo := 0) (n := 30 + z) (fun t σ H => Lp K Ck Cs Cc sa da c k2 s2 m (4 * t) t (300 * t) σ H) h1 (fun t σ H ht h => ?_) fun σ H h => kk _ _ (h.mono (by omega) (by omega) (by omega))
  rw [Int.zero_add]
  exact q1 _ sa da c k2 s2 m (4 * t) t (300 * t) t σ H h hm1 hm (by omega) (by omega) (by omega) fun σ H' h' => h'.mono (by omega) (Nat.le_refl _) (by omega)
end
end K49

/-! K49B6: the law: its start, its end, the whole. -/
namespace K49
open PySem PySem.Spec PyProof.Rows L2
def spLaw (K : PySem.W.Frag) : Sp := fun vs H Q _ => ∃ (sa : Addr) (ns : List Int), vs = [.ref sa] ∧ SqF K H sa (ns.map V.int) ∧ ∀ H' : Hp, Q (.bl true) H'
section
variable {P : Program} {w : World} {K : PySem.W.Frag} {mg : Str → Option Value} {base : Heap} {Cr Ck Cs Cc Cb : Addr} {f : Addr} {cdv : Value} {A : Around} {outer : List Env} {s0 : Shared} {H0 : Hp} {E0' : XK}
theorem new_ok (m : Nat) : SdeOk m 0 0 ⟨(List.range m).map Kp.new, []⟩ := by
  refine ⟨by rw [List.length_map, List.length_range], fun i k e => ?_, fun s h => (nomatch h)⟩
  have e2 : ((List.range m).map Kp.new)[i]? = some k := e
  obtain ⟨h1, h2⟩ := List.getElem?_eq_some_iff.mp e2
  rw [List.getElem_map, List.getElem_range] at h2
  rw [List.length_map, List.length_range] at h1
  subst h2
  exact ⟨rfl, h1, Nat.le_refl _, Nat.le_refl _, fun l hl => (nomatch hl)⟩
theorem b_init (F : Lf P w K mg base Cr Ck Cs Cc Cb) (hr : Room 7 (LX P w K mg base f cdv A outer s0 H0 E0').A) : ∃ t, PS (LX P w K mg base f cdv A outer s0 H0 E0') ((defBody sLaw).getD 2 noS) t ∧ ∀ (D : Ends) (sa da : Addr) (m : Nat) (σ : L2.St) (H : Hp),
    σ = [some (.ref sa), some (.ref da), some (.int m), none, none, none, none, none, none, none, none, none, none, none, none, none, none, none, none, none, none] → DrAt K H da → 1 ≤ m → m ≤ 4 → (∀ c k2 s2 σ H', Lp K Ck Cs Cc sa da c k2 s2 m 0 0 0 σ H' → D.nx σ H') → t D σ H := by
  obtain ⟨fC, fdC, GC, bC, MC⟩ := F.cInit.ex
  obtain ⟨fI, fdI, GI, bI, MI⟩ := F.kInit.ex
  have T := F.T
  have hr2 : Room 2 _ := hr.mono (by decide)
  have hr4 : Room 4 _ := hr.mono (by decide)
  refine ⟨_, ps_asg (pe_tup (pa_cons (pe_make MC GC hr4 rfl T.mC bC .nil pass0 (pa_cons (pv 2) pa_nil)) (pa_cons
      (pe_lc (own := [("_law_number_here", 3)]) (g := gName 3) (tt := tYes) (te := tMake Ck (spKpInit Ck) [] E0 (tCons (tVar 3) tNil)) rfl scLaw.nd (pi_range1 rfl T.b.range (pa_cons (pv 2) pa_nil)) (blkOk_by (N := nLaw) (sc := defScope sLaw) (by decide +kernel))
        (fun _ _ _ _ _ => pg_name (i := 3) scLaw.nd rfl (Or.inl rfl)) (fun _ _ _ _ _ => pts_nil) (fun _ _ _ _ _ => pe_make MI GI hr2 rfl T.mK bI .nil pass0 (pa_cons (pv 3) pa_nil)))
      (pa_cons (pe_lst pa_nil) (pa_cons (pe_lst pa_nil) pa_nil)))))
    (pg_tup rfl (pgs_cons (pg_name (i := 4) scLaw.nd rfl (Or.inl rfl)) (pgs_cons (pg_name (i := 5) scLaw.nd rfl (Or.inl rfl)) (pgs_cons (pg_name (i := 6) scLaw.nd rfl (Or.inr rfl)) (pgs_cons (pg_name (i := 7) scLaw.nd rfl (Or.inl rfl)) pgs_nil))))), ?_⟩
  rintro D sa da m σ H rfl hdr hm1 hm kk
  refine ⟨_, rfl, fun c dx nx ndx nex => ?_⟩
  have k0 : Kpt No H (upd (upd H dx (.own c)) c (.ins Cc dx [])) := by
    have s1 : Kpt No H (upd H dx (.own c)) := Kpt.new ndx
    exact s1.trans (Kpt.new (by rw [upd_ne nex.symm]; exact nx))
  refine ⟨c, dx, m, rfl, upd_same, by omega, fun ll g H1 C mm k1 => ⟨rfl, ?_⟩⟩
  have k01 : Kpt No H H1 := k0.then (k1.mono (N := fun b => b = c) fun _ z => z) fun b z => .inr (by rw [z]; exact nx)
  have en : ((m : Nat) : Int).toNat = m := Int.toNat_natCast _
  have hdr1 := hdr.keep k01 (fun z => z) fun _ z => z.elim
  have dnc : ¬ CnMem c ll g da := fun z => by
    rcases mm da z with y | y
    · exact hdr.there (by rw [y]; exact nx)
    · exact hdr.there (k0.same.free y)
  refine ⟨_, rfl, _, rfl, by omega, by omega, ?_⟩
  rw [en]
  refine fun k2 nk2 => keepers_lc (σ := [some (.ref sa), some (.ref da), some (.int m), none, none, none, none, none, none, none, none, none, none, none, none, none, none, none, none, none, none]) (v := 3) (m := m) (by show 3 < 21; decide) (by omega) nk2 fun kas H2 hk2 hkp hnd hfr kk2 => ?_
  refine ⟨(by show 0 ≤ sizeLine; exact Nat.zero_le _), fun s2 ns2 => ?_⟩
  have k3 : Kpt No H2 (upd H2 s2 (.lst [])) := Kpt.new ns2
  have hs2 : upd H2 s2 (.lst []) s2 = some (.lst []) := upd_same
  have hk23 := k3.same _ _ hk2
  have hkp3 := Pd.ofIx hkp.length fun i x y h1 h2 => (Pd.ix hkp h1 h2).mono k3 fun z => z
  have nks : k2 ≠ s2 := ne_of_none hk2 ns2
  have ns2' := kk2.same.free ns2
  have k13 := kk2.trans k3
  generalize upd H2 s2 (.lst []) = H3 at *
  refine ⟨(by show 0 ≤ sizeLine; exact Nat.zero_le _), fun La nLa => ?_⟩
  have k4 : Kpt No H3 (upd H3 La (.lst [])) := Kpt.new nLa
  have hLa : upd H3 La (.lst []) La = some (.lst []) := upd_same
  have nkl : k2 ≠ La := ne_of_none hk23 nLa
  have nsl : s2 ≠ La := ne_of_none hs2 nLa
  have nLa' := k13.same.free nLa
  have nkal : ∀ a ∈ kas, a ≠ La := fun a ha z => by
    obtain ⟨k, _, q⟩ := Pd.mem hkp3 ha
    exact q.there (z ▸ nLa)
  have k14 := k13.trans k4
  have k34 := k4
  generalize upd H3 La (.lst []) = H4 at *
  refine ⟨(by show 4 ≤ sizeLine; exact small (by decide)), fun t nt => ?_⟩
  have k5 : Kpt No H4 (upd H4 t (.tup [.ref c, .ref k2, .ref s2, .ref La])) := Kpt.new nt
  refine ⟨t, _, rfl, sqT upd_same, rfl, _, _, rfl, _, _, rfl, _, _, rfl, _, _, rfl, rfl, ?_⟩
  have k15 := k14.trans k5
  have k35 := k4.trans k5
  generalize upd H4 t (.tup [.ref c, .ref k2, .ref s2, .ref La]) = H5 at *
  refine kk c k2 s2 _ _ ⟨La, ⟨(List.range m).map Kp.new, []⟩, [], _, _, _, _, _, _, _, _, _, _, _, _, _, _, rfl, ⟨ll, g, ⟨k2, s2, kas, []⟩, ?_⟩, new_ok m, Nat.le_refl _, fun l hl => (nomatch hl), Nat.zero_le _⟩
  refine ⟨C.mono k15 fun _ _ z => z, ⟨k35.same _ _ hk23, k35.same _ _ hs2, Pd.ofIx hkp3.length fun i x y h1 h2 => (Pd.ix hkp3 h1 h2).mono k35 fun z => z, hnd, .nil, fun i j a b x h => (by simp at h), nks, fun a ha => (nomatch ha)⟩, rfl, rfl, ⟨[], k5.same _ _ hLa, .nil⟩, hdr1.keep k15 (fun z => z) (fun _ z => z.elim), fun b hb z => ?_, fun z => C.there z nLa', fun z => ?_, fun z => hdr1.there (z ▸ nLa'), dnc, fun z => ?_⟩
  · rcases z with rfl | rfl | z | ⟨a, ha, _⟩
    · exact C.there hb nk2
    · exact C.there hb ns2'
    · exact C.there hb (hfr b z)
    · exact nomatch ha
  · rcases z with z | z | z | ⟨a, ha, _⟩
    · exact nkl z.symm
    · exact nsl z.symm
    · exact nkal La z rfl
    · exact nomatch ha
  · rcases z with z | z | z | ⟨a, ha, _⟩
    · exact hdr1.there (by rw [show da = k2 from z]; exact nk2)
    · exact hdr1.there (by rw [show da = s2 from z]; exact ns2')
    · exact hdr1.there (hfr da z)
    · exact nomatch ha
/-! ### the end -/
theorem b_end (F : Lf P w K mg base Cr Ck Cs Cc Cb) (hr : Room 7 (LX P w K mg base f cdv A outer s0 H0 E0').A) : ∃ t, PSs (LX P w K mg base f cdv A outer s0 H0 E0') ((defBody sLaw).drop 4) t ∧ ∀ (D : Ends) (sa da c k2 s2 : Addr) (m : Nat) (σ : L2.St) (H : Hp),
    Lp K Ck Cs Cc sa da c k2 s2 m 280 70 21000 σ H → m ≤ 4 → (∀ H', D.rt (.bl true) H') → t D σ H := by
  obtain ⟨fB, fdB, GB, bB, mB, kB⟩ := F.bars.ex
  have T := F.T
  refine ⟨_, pss_cons (ps_for PassesOwn.never rfl (pi_tup (pe_tup (pa_cons (pe_un un_neg pe_int) (pa_cons (pe_callB call_len_seq (by rfl) T.b.len PySem.boot_len (pa_cons (pv 7) pa_nil)) (pa_cons pe_str pa_nil))))) (pg_name (i := 19) scLaw.nd rfl (Or.inl rfl))
      (pss_one (ps_if (PW.pt (pw_or (pt_not (pt_val (pe_call GB hr rfl mB kB bB .nil pass0 (pa_cons (pv 4) (pa_cons pe_int (pa_cons (pv 19) pa_nil)))))) (pw_or1 (pt_not (pt_val (pe_call GB hr rfl mB kB bB .nil pass0 (pa_cons (pv 4) (pa_cons pe_int (pa_cons (pv 19) pa_nil)))))))))
        pss_never pss_nil)))
    (pss_one (ps_ret (pe_and (pe_call GB hr rfl mB kB bB .nil pass0 (pa_cons (pv 4) (pa_cons pe_int (pa_cons (pe_un un_neg pe_int) pa_nil)))) (pe_and (pe_call GB hr rfl mB kB bB .nil pass0 (pa_cons (pv 4) (pa_cons pe_int (pa_cons (pe_op op_pow pe_int pe_int) pa_nil))))
      (pe_one (pe_call GB hr rfl mB kB bB .nil pass0 (pa_cons (pv 4) (pa_cons pe_int (pa_cons pe_str pa_nil)))))))))
    , ?_⟩
  rintro D sa da c k2 s2 m σ H ⟨La, p, w, u3, u8, u9, u10, u11, u12, u13, u14, u15, u16, u17, u18, u19, u20, rfl, ⟨ll, g, g2, L⟩, ok, hw, hlt, hss⟩ hm kk
  have hrt : rowTop = 1000 := rfl
  obtain ⟨vl, hl, hlq⟩ := L.le
  have e1 := hlq.length
  refine ⟨_, rfl, _, rfl, La, vl, rfl, .inl (sqL hl), (by show 3 ≤ sizeLine; exact small (by decide)), fun t nt => ?_⟩
  have k1 : Kpt No H (upd H t (.tup [.int (-1), .int (vl.length : Nat), .str "0"])) := Kpt.new nt
  have ht : upd H t (.tup [.int (-1), .int (vl.length : Nat), .str "0"]) t = some (.tup [.int (-1), .int (vl.length : Nat), .str "0"]) := upd_same
  have L1 := L.same k1
  refine ⟨t, rfl, ⟨_, sqT ht⟩, ?_⟩
  have go : ∀ H1, upd H t (.tup [.int (-1), .int (vl.length : Nat), .str "0"]) = H1 → True := fun _ _ => trivial
  refine for_tup (K := K) (a := t) (xs := [.int (-1), .int (vl.length : Nat), .str "0"]) (fun n σ H1 => ∃ u : Option V, σ = [some (.ref sa), some (.ref da), some (.int m), u3, some (.ref c), some (.ref k2), some (.ref s2), some (.ref La), u8, u9, u10, u11, u12, u13, u14, u15, u16, u17, u18, u, u20] ∧ LwG K Ck Cs Cc da c La k2 s2 ll g g2 H1 p p w w ∧ H1 t = some (.tup [.int (-1), .int (vl.length : Nat), .str "0"]))
    ⟨u19, rfl, L1, ht⟩ (fun n σ H1 _ ⟨_, _, _, h⟩ => sqT h) ?_ ?_
  · rintro n x σ H1 hx ⟨u, rfl, L2', ht2⟩
    have hno : NoAt w x := by
      have hmem := List.mem_of_getElem? hx
      rcases List.mem_cons.mp hmem with rfl | hmem
      · exact .inl ⟨-1, rfl, by omega⟩
      · rcases List.mem_cons.mp hmem with rfl | hmem
        · exact .inl ⟨_, rfl, by omega⟩
        · rw [List.mem_singleton.mp hmem]; exact .inr ⟨_, rfl⟩
    refine ⟨_, rfl, _, rfl, c, ll, g, p, w, x, 1, m, 280, 70, rfl, L2'.cn, by omega, by omega, ok, by omega, by omega, hlt, .inr (.inl ⟨rfl, hno⟩), fun H2 k2' => ⟨_, rfl, ?_⟩⟩
    have L3 := L2'.same k2'
    refine iteF ⟨_, rfl, _, rfl, c, ll, g, p, w, x, 2, m, 280, 70, rfl, L3.cn, by omega, by omega, ok, by omega, by omega, hlt, .inr (.inr ⟨rfl, hno⟩), fun H3 k3 => ⟨_, rfl, ?_⟩⟩
    have L4 := L3.same k3
    exact iteF ⟨some x, rfl, L4, k3.tup _ _ (k2'.tup _ _ ht2)⟩
  · rintro σ H1 ⟨u, rfl, L2', _⟩
    refine ⟨_, rfl, _, rfl, c, ll, g, p, w, _, 0, m, 280, 70, rfl, L2'.cn, by omega, by omega, ok, by omega, by omega, hlt, .inl ⟨rfl, .inl ⟨-1, rfl, .inl (by decide)⟩⟩, fun H2 k2' => ⟨_, rfl, ?_⟩⟩
    have L3 := L2'.same k2'
    refine iteT ⟨_, rfl, _, _, rfl, rfl, ⟨by decide, by decide, by decide⟩, c, ll, g, p, w, _, 0, m, 280, 70, rfl, L3.cn, by omega, by omega, ok, by omega, by omega, hlt, .inl ⟨rfl, .inl ⟨10 ^ 12, rfl, .inl (by decide)⟩⟩, fun H3 k3 => ⟨_, rfl, ?_⟩⟩
    have L4 := L3.same k3
    exact iteT ⟨_, rfl, c, ll, g, p, w, _, 0, m, 280, 70, rfl, L4.cn, by omega, by omega, ok, by omega, by omega, hlt, .inl ⟨rfl, .inr ⟨_, rfl⟩⟩, fun H4 k4 => kk _⟩
/-! ### the whole -/
theorem ok_law {fL : Addr} {fd : FuncData} (FL : Fun K "law" "law" sLaw fL fd) (F : Lf P w K mg base Cr Ck Cs Cc Cb) : FnOk P w K mg base CX0 8 fL fd ["_law_script"] (spLaw K) := by
  refine FL.ok scLaw (fun vs H Q E h => ?_) (fun cdv A outer s H vs Q E hr h => ?_)
  · obtain ⟨sa, ns, rfl, _⟩ := h
    rfl
  · obtain ⟨sa, ns, rfl, hS, kk⟩ := h
    obtain ⟨t1, p1, q1⟩ := b_init (f := fL) (cdv := cdv) (outer := outer) (s0 := s) (H0 := H) (E0' := E) F hr
    obtain ⟨t2, p2, q2⟩ := b_loop (f := fL) (cdv := cdv) (outer := outer) (s0 := s) (H0 := H) (E0' := E) F hr
    obtain ⟨t3, p3, q3⟩ := b_end (f := fL) (cdv := cdv) (outer := outer) (s0 := s) (H0 := H) (E0' := E) F hr
    obtain ⟨fT, fdT, GT, bT, mT, kT⟩ := F.take.ex
    have T := F.T
    have hr2 : Room 2 _ := hr.mono (by decide)
    refine ⟨_, pss_cons (ps_set (i := 1) scLaw.nd rfl (Or.inr rfl) (pe_lst (pa_cons (pv 0) (pa_cons pe_int pa_nil))))
      (pss_cons (ps_set (i := 2) scLaw.nd rfl (Or.inl rfl) (pe_op op_add pe_int (pe_call GT hr2 rfl mT kT bT .nil pass0 (pa_cons (pv 1) (pa_cons pe_int pa_nil)))))
      (pss_cons p1 (pss_cons p2 p3))), ?_⟩
    refine ⟨_, rfl, (by show 2 ≤ sizeLine; exact small (by decide)), fun da nda => ?_⟩
    have k1 : Kpt No H (upd H da (.lst [.ref sa, .int 0])) := Kpt.new nda
    have hd : DrAt K (upd H da (.lst [.ref sa, .int 0])) da := ⟨sa, 0, ns, upd_same, by decide, hS.keep k1 fun _ z => z.elim⟩
    generalize upd H da (.lst [.ref sa, .int 0]) = H1 at *
    refine ⟨_, rfl, da, _, rfl, by decide, hd, fun z H2 hz hd2 k2 => ?_⟩
    refine ⟨_, _, rfl, rfl, ?_⟩
    refine q1 _ sa da (1 + z) _ _ rfl hd2 (by omega) (by omega) fun c k2 s2 σ H3 h3 => ?_
    refine q2 _ sa da c k2 s2 (1 + z) _ _ h3 (by omega) (by omega) fun σ H4 h4 => ?_
    exact q3 _ sa da c k2 s2 (1 + z) _ _ h4 (by omega) fun H' => kk H'
end
end K49

/-! K49Z: what the top has written; the end. -/
namespace K49
open PySem PySem.Spec PyProof.Rows L2
/-- an error of the class at S is what «except S» names -/
theorem exm_self {K : PySem.W.Frag} {S : Addr} (h1 : PySem.W.subIn K (.ref S) (.type "BaseException") = some true) (h2 : PySem.W.isClsIn K S = true) (h3 : PySem.W.typeIn K (.ref S) = some (.type "type")) (h4 : PySem.W.subIn K (.ref S) (.ref S) = some true) :
    PySem.W.exmOne K (.ref S) (.ref S) = some true := by
  have e1 : (PySem.W.subIn K (.ref S) (.type "BaseException") == some true) = true := by rw [h1] <;> rfl
  have e2 : ((PySem.W.clsIn K S).isSome && PySem.W.typeIn K (.ref S) == some (.type "type")) = true := by
    have h2' : (PySem.W.clsIn K S).isSome = true := h2
    rw [h2', h3] <;> rfl
  show (if (PySem.W.subIn K (.ref S) (.type "BaseException") == some true) = true then (if ((PySem.W.clsIn K S).isSome && PySem.W.typeIn K (.ref S) == some (.type "type")) = true then PySem.W.subIn K (.ref S) (.ref S) else none) else none) = some true
  rw [if_pos e1, if_pos e2]
  exact h4
theorem along_of {K : PySem.W.Frag} {C : Addr} {cd : ClassData} {name : Str} {r : Option Value} {l : List Value} (hs : PySem.W.findIn K (.ref C) name = some r) (hc : PySem.W.clsIn K C = some cd) (hm : cd.mro = l) : PySem.W.alongIn K name l = some r := by
  obtain ⟨cd', h1, h2⟩ := PySem.W.kw_along hs
  rw [hc] at h1
  cases h1
  rw [← hm]
  exact h2
theorem all_mk {l : PySem.W.OpenLaw} {w : World} {K : PySem.W.Frag} {h : Heap} {mg : Str → Option Value} {fa Cr Ck Cs Cc Cb CE fB cda cc : Addr} {fWh fMo fNe fNu fTa fPi fLo fBr fBa fLa fRi fRp fRf fKi fKk fKh fKt fKf fKa fSi fSs fSh fSa fSe fCi fCb fCs_ fCd fCl fCf fCa fCt fCe : Addr}
    {odWh anWh odMo anMo odNe anNe odNu anNu odTa anTa odPi anPi odLo anLo odBr anBr odBa anBa odLa anLa odRi anRi odRp anRp odRf anRf odKi anKi odKk anKk odKh anKh odKt anKt odKf anKf odKa anKa odSi anSi odSs anSs odSh anSh odSa anSa odSe anSe odCi anCi odCb anCb odCs_ anCs_ odCd anCd odCl anCl odCf anCf odCa anCa odCt anCt odCe anCe : Option Addr} {slWh slMo slNe slNu slTa slPi slLo slBr slBa slLa slRi slRp slRf slKi slKk slKh slKt slKf slKa slSi slSs slSh slSa slSe slCi slCb slCs_ slCd slCl slCf slCa slCt slCe : Array (Option Value)} {ocWh kVWh dcWh pmWh cdWh ctWh ocMo kVMo dcMo pmMo cdMo ctMo ocNe kVNe dcNe pmNe cdNe ctNe ocNu kVNu dcNu pmNu cdNu ctNu ocTa kVTa dcTa pmTa cdTa ctTa ocPi kVPi dcPi pmPi cdPi ctPi ocLo kVLo dcLo pmLo cdLo ctLo ocBr kVBr dcBr pmBr cdBr ctBr ocBa kVBa dcBa pmBa cdBa ctBa ocLa kVLa dcLa pmLa cdLa ctLa ocRi kVRi dcRi pmRi cdRi ctRi ocRp kVRp dcRp pmRp cdRp ctRp ocRf kVRf dcRf pmRf cdRf ctRf ocKi kVKi dcKi pmKi cdKi ctKi ocKk kVKk dcKk pmKk cdKk ctKk ocKh kVKh dcKh pmKh cdKh ctKh ocKt kVKt dcKt pmKt cdKt ctKt ocKf kVKf dcKf pmKf cdKf ctKf ocKa kVKa dcKa pmKa cdKa ctKa ocSi kVSi dcSi pmSi cdSi ctSi ocSs kVSs dcSs pmSs cdSs ctSs ocSh kVSh dcSh pmSh cdSh ctSh ocSa kVSa dcSa pmSa cdSa ctSa ocSe kVSe dcSe pmSe cdSe ctSe ocCi kVCi dcCi pmCi cdCi ctCi ocCb kVCb dcCb pmCb cdCb ctCb ocCs_ kVCs_ dcCs_ pmCs_ cdCs_ ctCs_ ocCd kVCd dcCd pmCd cdCd ctCd ocCl kVCl dcCl pmCl cdCl ctCl ocCf kVCf dcCf pmCf cdCf ctCf ocCa kVCa dcCa pmCa cdCa ctCa ocCt kVCt dcCt pmCt cdCt ctCt ocCe kVCe dcCe pmCe cdCe ctCe : Value}
    {nmB qB : Str} {NB : Addr} {bsB : List Value} {snB : List Str} {subB : List Value} {abB : Bool} {colB : Option Bool} {ddB : Option Addr} {m0 m1 m2 m3 m5 : Option Value} {cdE : ClassData} {ocB docB pmB ctB kVB clB cclB : Value} {odB anB cldB cddB : Option Addr} {oslB cslB ccsB : Array (Option Value)} {vsB : Array Value} {tfB tA tL tS tM : Tok} (X : K.In h) (G : h.Ns mainGlobals mg) (hfa : mg "law" = some (.ref fa))
    (aWh : PySem.W.nsIn K mainGlobals "is_whole" = some (some (.ref fWh)))
    (lWh : K.lookup fWh = some ⟨ocWh, odWh, .func (PySem.W.fnOf "is_whole" "is_whole" (defArgs sWhole) (defBody sWhole) (defScope sWhole) .none kVWh dcWh pmWh anWh cdWh ctWh), slWh⟩)
    (cWh : PySem.W.codeIn K cdWh "is_whole" = true)
    (kWh : PySem.W.keepIn K (.ref fWh) = true)
    (aMo : PySem.W.nsIn K mainGlobals "most_of" = some (some (.ref fMo)))
    (lMo : K.lookup fMo = some ⟨ocMo, odMo, .func (PySem.W.fnOf "most_of" "most_of" (defArgs sMost) (defBody sMost) (defScope sMost) .none kVMo dcMo pmMo anMo cdMo ctMo), slMo⟩)
    (cMo : PySem.W.codeIn K cdMo "most_of" = true)
    (kMo : PySem.W.keepIn K (.ref fMo) = true)
    (aNe : PySem.W.nsIn K mainGlobals "newest_row" = some (some (.ref fNe)))
    (lNe : K.lookup fNe = some ⟨ocNe, odNe, .func (PySem.W.fnOf "newest_row" "newest_row" (defArgs sNewest) (defBody sNewest) (defScope sNewest) .none kVNe dcNe pmNe anNe cdNe ctNe), slNe⟩)
    (cNe : PySem.W.codeIn K cdNe "newest_row" = true)
    (kNe : PySem.W.keepIn K (.ref fNe) = true)
    (aNu : PySem.W.nsIn K mainGlobals "_law_number" = some (some (.ref fNu)))
    (lNu : K.lookup fNu = some ⟨ocNu, odNu, .func (PySem.W.fnOf "_law_number" "_law_number" (defArgs sNumber) (defBody sNumber) (defScope sNumber) .none kVNu dcNu pmNu anNu cdNu ctNu), slNu⟩)
    (cNu : PySem.W.codeIn K cdNu "_law_number" = true)
    (kNu : PySem.W.keepIn K (.ref fNu) = true)
    (aTa : PySem.W.nsIn K mainGlobals "_law_take" = some (some (.ref fTa)))
    (lTa : K.lookup fTa = some ⟨ocTa, odTa, .func (PySem.W.fnOf "_law_take" "_law_take" (defArgs sTake) (defBody sTake) (defScope sTake) .none kVTa dcTa pmTa anTa cdTa ctTa), slTa⟩)
    (cTa : PySem.W.codeIn K cdTa "_law_take" = true)
    (kTa : PySem.W.keepIn K (.ref fTa) = true)
    (aPi : PySem.W.nsIn K mainGlobals "_law_pick" = some (some (.ref fPi)))
    (lPi : K.lookup fPi = some ⟨ocPi, odPi, .func (PySem.W.fnOf "_law_pick" "_law_pick" (defArgs sPick) (defBody sPick) (defScope sPick) .none kVPi dcPi pmPi anPi cdPi ctPi), slPi⟩)
    (cPi : PySem.W.codeIn K cdPi "_law_pick" = true)
    (kPi : PySem.W.keepIn K (.ref fPi) = true)
    (aLo : PySem.W.nsIn K mainGlobals "_law_looks" = some (some (.ref fLo)))
    (lLo : K.lookup fLo = some ⟨ocLo, odLo, .func (PySem.W.fnOf "_law_looks" "_law_looks" (defArgs sLooks) (defBody sLooks) (defScope sLooks) .none kVLo dcLo pmLo anLo cdLo ctLo), slLo⟩)
    (cLo : PySem.W.codeIn K cdLo "_law_looks" = true)
    (kLo : PySem.W.keepIn K (.ref fLo) = true)
    (aBr : PySem.W.nsIn K mainGlobals "_law_bring" = some (some (.ref fBr)))
    (lBr : K.lookup fBr = some ⟨ocBr, odBr, .func (PySem.W.fnOf "_law_bring" "_law_bring" (defArgs sBring) (defBody sBring) (defScope sBring) .none kVBr dcBr pmBr anBr cdBr ctBr), slBr⟩)
    (cBr : PySem.W.codeIn K cdBr "_law_bring" = true)
    (kBr : PySem.W.keepIn K (.ref fBr) = true)
    (aBa : PySem.W.nsIn K mainGlobals "_law_bars" = some (some (.ref fBa)))
    (lBa : K.lookup fBa = some ⟨ocBa, odBa, .func (PySem.W.fnOf "_law_bars" "_law_bars" (defArgs sBars) (defBody sBars) (defScope sBars) .none kVBa dcBa pmBa anBa cdBa ctBa), slBa⟩)
    (cBa : PySem.W.codeIn K cdBa "_law_bars" = true)
    (kBa : PySem.W.keepIn K (.ref fBa) = true)
    (aLa : PySem.W.nsIn K mainGlobals "law" = some (some (.ref fLa)))
    (lLa : K.lookup fLa = some ⟨ocLa, odLa, .func (PySem.W.fnOf "law" "law" (defArgs sLaw) (defBody sLaw) (defScope sLaw) .none kVLa dcLa pmLa anLa cdLa ctLa), slLa⟩)
    (cLa : PySem.W.codeIn K cdLa "law" = true)
    (kLa : PySem.W.keepIn K (.ref fLa) = true)
    (aCR : PySem.W.nsIn K mainGlobals "Record" = some (some (.ref Cr)))
    (aCK : PySem.W.nsIn K mainGlobals "Keeper" = some (some (.ref Ck)))
    (aCS : PySem.W.nsIn K mainGlobals "Sequencer" = some (some (.ref Cs)))
    (aCC : PySem.W.nsIn K mainGlobals "Council" = some (some (.ref Cc)))
    (aRi : PySem.W.findIn K (.ref Cr) "__init__" = some (some (.ref fRi)))
    (iRi : PySem.W.isFn K (.ref fRi) = true)
    (lRi : K.lookup fRi = some ⟨ocRi, odRi, .func (PySem.W.fnOf "__init__" "Record.__init__" (defArgs sRecInit) (defBody sRecInit) (defScope sRecInit) .none kVRi dcRi pmRi anRi cdRi ctRi), slRi⟩)
    (cRi : PySem.W.codeIn K cdRi "Record.__init__" = true)
    (kRi : PySem.W.keepIn K (.ref fRi) = true)
    (aRp : PySem.W.findIn K (.ref Cr) "put" = some (some (.ref fRp)))
    (iRp : PySem.W.isFn K (.ref fRp) = true)
    (lRp : K.lookup fRp = some ⟨ocRp, odRp, .func (PySem.W.fnOf "put" "Record.put" (defArgs sRecPut) (defBody sRecPut) (defScope sRecPut) .none kVRp dcRp pmRp anRp cdRp ctRp), slRp⟩)
    (cRp : PySem.W.codeIn K cdRp "Record.put" = true)
    (kRp : PySem.W.keepIn K (.ref fRp) = true)
    (aRf : PySem.W.findIn K (.ref Cr) "fits" = some (some (.ref fRf)))
    (iRf : PySem.W.isFn K (.ref fRf) = true)
    (lRf : K.lookup fRf = some ⟨ocRf, odRf, .func (PySem.W.fnOf "fits" "Record.fits" (defArgs sRecFits) (defBody sRecFits) (defScope sRecFits) .none kVRf dcRf pmRf anRf cdRf ctRf), slRf⟩)
    (cRf : PySem.W.codeIn K cdRf "Record.fits" = true)
    (kRf : PySem.W.keepIn K (.ref fRf) = true)
    (aKi : PySem.W.findIn K (.ref Ck) "__init__" = some (some (.ref fKi)))
    (iKi : PySem.W.isFn K (.ref fKi) = true)
    (lKi : K.lookup fKi = some ⟨ocKi, odKi, .func (PySem.W.fnOf "__init__" "Keeper.__init__" (defArgs sKpInit) (defBody sKpInit) (defScope sKpInit) .none kVKi dcKi pmKi anKi cdKi ctKi), slKi⟩)
    (cKi : PySem.W.codeIn K cdKi "Keeper.__init__" = true)
    (kKi : PySem.W.keepIn K (.ref fKi) = true)
    (aKk : PySem.W.findIn K (.ref Ck) "kept" = some (some (.ref fKk)))
    (iKk : PySem.W.isFn K (.ref fKk) = true)
    (lKk : K.lookup fKk = some ⟨ocKk, odKk, .func (PySem.W.fnOf "kept" "Keeper.kept" (defArgs sKpKept) (defBody sKpKept) (defScope sKpKept) .none kVKk dcKk pmKk anKk cdKk ctKk), slKk⟩)
    (cKk : PySem.W.codeIn K cdKk "Keeper.kept" = true)
    (kKk : PySem.W.keepIn K (.ref fKk) = true)
    (aKh : PySem.W.findIn K (.ref Ck) "handle" = some (some (.ref fKh)))
    (iKh : PySem.W.isFn K (.ref fKh) = true)
    (lKh : K.lookup fKh = some ⟨ocKh, odKh, .func (PySem.W.fnOf "handle" "Keeper.handle" (defArgs sKpHandle) (defBody sKpHandle) (defScope sKpHandle) .none kVKh dcKh pmKh anKh cdKh ctKh), slKh⟩)
    (cKh : PySem.W.codeIn K cdKh "Keeper.handle" = true)
    (kKh : PySem.W.keepIn K (.ref fKh) = true)
    (aKt : PySem.W.findIn K (.ref Ck) "take" = some (some (.ref fKt)))
    (iKt : PySem.W.isFn K (.ref fKt) = true)
    (lKt : K.lookup fKt = some ⟨ocKt, odKt, .func (PySem.W.fnOf "take" "Keeper.take" (defArgs sKpTake) (defBody sKpTake) (defScope sKpTake) .none kVKt dcKt pmKt anKt cdKt ctKt), slKt⟩)
    (cKt : PySem.W.codeIn K cdKt "Keeper.take" = true)
    (kKt : PySem.W.keepIn K (.ref fKt) = true)
    (aKf : PySem.W.findIn K (.ref Ck) "flush" = some (some (.ref fKf)))
    (iKf : PySem.W.isFn K (.ref fKf) = true)
    (lKf : K.lookup fKf = some ⟨ocKf, odKf, .func (PySem.W.fnOf "flush" "Keeper.flush" (defArgs sKpFlush) (defBody sKpFlush) (defScope sKpFlush) .none kVKf dcKf pmKf anKf cdKf ctKf), slKf⟩)
    (cKf : PySem.W.codeIn K cdKf "Keeper.flush" = true)
    (kKf : PySem.W.keepIn K (.ref fKf) = true)
    (aKa : PySem.W.findIn K (.ref Ck) "fall" = some (some (.ref fKa)))
    (iKa : PySem.W.isFn K (.ref fKa) = true)
    (lKa : K.lookup fKa = some ⟨ocKa, odKa, .func (PySem.W.fnOf "fall" "Keeper.fall" (defArgs sKpFall) (defBody sKpFall) (defScope sKpFall) .none kVKa dcKa pmKa anKa cdKa ctKa), slKa⟩)
    (cKa : PySem.W.codeIn K cdKa "Keeper.fall" = true)
    (kKa : PySem.W.keepIn K (.ref fKa) = true)
    (aSi : PySem.W.findIn K (.ref Cs) "__init__" = some (some (.ref fSi)))
    (iSi : PySem.W.isFn K (.ref fSi) = true)
    (lSi : K.lookup fSi = some ⟨ocSi, odSi, .func (PySem.W.fnOf "__init__" "Sequencer.__init__" (defArgs sSqInit) (defBody sSqInit) (defScope sSqInit) .none kVSi dcSi pmSi anSi cdSi ctSi), slSi⟩)
    (cSi : PySem.W.codeIn K cdSi "Sequencer.__init__" = true)
    (kSi : PySem.W.keepIn K (.ref fSi) = true)
    (aSs : PySem.W.findIn K (.ref Cs) "to_send" = some (some (.ref fSs)))
    (iSs : PySem.W.isFn K (.ref fSs) = true)
    (lSs : K.lookup fSs = some ⟨ocSs, odSs, .func (PySem.W.fnOf "to_send" "Sequencer.to_send" (defArgs sSqSend) (defBody sSqSend) (defScope sSqSend) .none kVSs dcSs pmSs anSs cdSs ctSs), slSs⟩)
    (cSs : PySem.W.codeIn K cdSs "Sequencer.to_send" = true)
    (kSs : PySem.W.keepIn K (.ref fSs) = true)
    (aSh : PySem.W.findIn K (.ref Cs) "hear" = some (some (.ref fSh)))
    (iSh : PySem.W.isFn K (.ref fSh) = true)
    (lSh : K.lookup fSh = some ⟨ocSh, odSh, .func (PySem.W.fnOf "hear" "Sequencer.hear" (defArgs sSqHear) (defBody sSqHear) (defScope sSqHear) .none kVSh dcSh pmSh anSh cdSh ctSh), slSh⟩)
    (cSh : PySem.W.codeIn K cdSh "Sequencer.hear" = true)
    (kSh : PySem.W.keepIn K (.ref fSh) = true)
    (aSa : PySem.W.findIn K (.ref Cs) "add" = some (some (.ref fSa)))
    (iSa : PySem.W.isFn K (.ref fSa) = true)
    (lSa : K.lookup fSa = some ⟨ocSa, odSa, .func (PySem.W.fnOf "add" "Sequencer.add" (defArgs sSqAdd) (defBody sSqAdd) (defScope sSqAdd) .none kVSa dcSa pmSa anSa cdSa ctSa), slSa⟩)
    (cSa : PySem.W.codeIn K cdSa "Sequencer.add" = true)
    (kSa : PySem.W.keepIn K (.ref fSa) = true)
    (aSe : PySem.W.findIn K (.ref Cs) "settled" = some (some (.ref fSe)))
    (iSe : PySem.W.isFn K (.ref fSe) = true)
    (lSe : K.lookup fSe = some ⟨ocSe, odSe, .func (PySem.W.fnOf "settled" "Sequencer.settled" (defArgs sSqSettled) (defBody sSqSettled) (defScope sSqSettled) .none kVSe dcSe pmSe anSe cdSe ctSe), slSe⟩)
    (cSe : PySem.W.codeIn K cdSe "Sequencer.settled" = true)
    (kSe : PySem.W.keepIn K (.ref fSe) = true)
    (aCi : PySem.W.findIn K (.ref Cc) "__init__" = some (some (.ref fCi)))
    (iCi : PySem.W.isFn K (.ref fCi) = true)
    (lCi : K.lookup fCi = some ⟨ocCi, odCi, .func (PySem.W.fnOf "__init__" "Council.__init__" (defArgs sCnInit) (defBody sCnInit) (defScope sCnInit) .none kVCi dcCi pmCi anCi cdCi ctCi), slCi⟩)
    (cCi : PySem.W.codeIn K cdCi "Council.__init__" = true)
    (kCi : PySem.W.keepIn K (.ref fCi) = true)
    (aCb : PySem.W.findIn K (.ref Cc) "begin" = some (some (.ref fCb)))
    (iCb : PySem.W.isFn K (.ref fCb) = true)
    (lCb : K.lookup fCb = some ⟨ocCb, odCb, .func (PySem.W.fnOf "begin" "Council.begin" (defArgs sCnBegin) (defBody sCnBegin) (defScope sCnBegin) .none kVCb dcCb pmCb anCb cdCb ctCb), slCb⟩)
    (cCb : PySem.W.codeIn K cdCb "Council.begin" = true)
    (kCb : PySem.W.keepIn K (.ref fCb) = true)
    (aCs_ : PySem.W.findIn K (.ref Cc) "send" = some (some (.ref fCs_)))
    (iCs_ : PySem.W.isFn K (.ref fCs_) = true)
    (lCs_ : K.lookup fCs_ = some ⟨ocCs_, odCs_, .func (PySem.W.fnOf "send" "Council.send" (defArgs sCnSend) (defBody sCnSend) (defScope sCnSend) .none kVCs_ dcCs_ pmCs_ anCs_ cdCs_ ctCs_), slCs_⟩)
    (cCs_ : PySem.W.codeIn K cdCs_ "Council.send" = true)
    (kCs_ : PySem.W.keepIn K (.ref fCs_) = true)
    (aCd : PySem.W.findIn K (.ref Cc) "deliver" = some (some (.ref fCd)))
    (iCd : PySem.W.isFn K (.ref fCd) = true)
    (lCd : K.lookup fCd = some ⟨ocCd, odCd, .func (PySem.W.fnOf "deliver" "Council.deliver" (defArgs sCnDeliver) (defBody sCnDeliver) (defScope sCnDeliver) .none kVCd dcCd pmCd anCd cdCd ctCd), slCd⟩)
    (cCd : PySem.W.codeIn K cdCd "Council.deliver" = true)
    (kCd : PySem.W.keepIn K (.ref fCd) = true)
    (aCl : PySem.W.findIn K (.ref Cc) "lose" = some (some (.ref fCl)))
    (iCl : PySem.W.isFn K (.ref fCl) = true)
    (lCl : K.lookup fCl = some ⟨ocCl, odCl, .func (PySem.W.fnOf "lose" "Council.lose" (defArgs sCnLose) (defBody sCnLose) (defScope sCnLose) .none kVCl dcCl pmCl anCl cdCl ctCl), slCl⟩)
    (cCl : PySem.W.codeIn K cdCl "Council.lose" = true)
    (kCl : PySem.W.keepIn K (.ref fCl) = true)
    (aCf : PySem.W.findIn K (.ref Cc) "flush" = some (some (.ref fCf)))
    (iCf : PySem.W.isFn K (.ref fCf) = true)
    (lCf : K.lookup fCf = some ⟨ocCf, odCf, .func (PySem.W.fnOf "flush" "Council.flush" (defArgs sCnFlush) (defBody sCnFlush) (defScope sCnFlush) .none kVCf dcCf pmCf anCf cdCf ctCf), slCf⟩)
    (cCf : PySem.W.codeIn K cdCf "Council.flush" = true)
    (kCf : PySem.W.keepIn K (.ref fCf) = true)
    (aCa : PySem.W.findIn K (.ref Cc) "fall" = some (some (.ref fCa)))
    (iCa : PySem.W.isFn K (.ref fCa) = true)
    (lCa : K.lookup fCa = some ⟨ocCa, odCa, .func (PySem.W.fnOf "fall" "Council.fall" (defArgs sCnFall) (defBody sCnFall) (defScope sCnFall) .none kVCa dcCa pmCa anCa cdCa ctCa), slCa⟩)
    (cCa : PySem.W.codeIn K cdCa "Council.fall" = true)
    (kCa : PySem.W.keepIn K (.ref fCa) = true)
    (aCt : PySem.W.findIn K (.ref Cc) "stop" = some (some (.ref fCt)))
    (iCt : PySem.W.isFn K (.ref fCt) = true)
    (lCt : K.lookup fCt = some ⟨ocCt, odCt, .func (PySem.W.fnOf "stop" "Council.stop" (defArgs sCnStop) (defBody sCnStop) (defScope sCnStop) .none kVCt dcCt pmCt anCt cdCt ctCt), slCt⟩)
    (cCt : PySem.W.codeIn K cdCt "Council.stop" = true)
    (kCt : PySem.W.keepIn K (.ref fCt) = true)
    (aCe : PySem.W.findIn K (.ref Cc) "exchange" = some (some (.ref fCe)))
    (iCe : PySem.W.isFn K (.ref fCe) = true)
    (lCe : K.lookup fCe = some ⟨ocCe, odCe, .func (PySem.W.fnOf "exchange" "Council.exchange" (defArgs sCnExch) (defBody sCnExch) (defScope sCnExch) .none kVCe dcCe pmCe anCe cdCe ctCe), slCe⟩)
    (cCe : PySem.W.codeIn K cdCe "Council.exchange" = true)
    (kCe : PySem.W.keepIn K (.ref fCe) = true)
    (pgR : PySem.W.plainGet K Cr Str.empty = true)
    (hdR : PySem.W.hasDictIn K Cr = true)
    (poR : PySem.W.plainOver K Cr = true)
    (saR : PySem.W.findIn K (.ref Cr) "__setattr__" = some (some (.builtin "object.__setattr__")))
    (mkR : PySem.W.makesIn K Cr = true)
    (kcR : PySem.W.keepIn K (.ref Cr) = true)
    (pgK : PySem.W.plainGet K Ck Str.empty = true)
    (hdK : PySem.W.hasDictIn K Ck = true)
    (poK : PySem.W.plainOver K Ck = true)
    (saK : PySem.W.findIn K (.ref Ck) "__setattr__" = some (some (.builtin "object.__setattr__")))
    (mkK : PySem.W.makesIn K Ck = true)
    (kcK : PySem.W.keepIn K (.ref Ck) = true)
    (pgS : PySem.W.plainGet K Cs Str.empty = true)
    (hdS : PySem.W.hasDictIn K Cs = true)
    (poS : PySem.W.plainOver K Cs = true)
    (saS : PySem.W.findIn K (.ref Cs) "__setattr__" = some (some (.builtin "object.__setattr__")))
    (mkS : PySem.W.makesIn K Cs = true)
    (kcS : PySem.W.keepIn K (.ref Cs) = true)
    (pgC : PySem.W.plainGet K Cc Str.empty = true)
    (hdC : PySem.W.hasDictIn K Cc = true)
    (poC : PySem.W.plainOver K Cc = true)
    (saC : PySem.W.findIn K (.ref Cc) "__setattr__" = some (some (.builtin "object.__setattr__")))
    (mkC : PySem.W.makesIn K Cc = true)
    (kcC : PySem.W.keepIn K (.ref Cc) = true)
    (n_rEp : PySem.W.findIn K (.ref Cr) "epoch" = some none)
    (n_rRow : PySem.W.findIn K (.ref Cr) "row" = some none)
    (n_kNum : PySem.W.findIn K (.ref Ck) "number" = some none)
    (n_kRec : PySem.W.findIn K (.ref Ck) "records" = some none)
    (n_kLoo : PySem.W.findIn K (.ref Ck) "loose" = some none)
    (n_kWai : PySem.W.findIn K (.ref Ck) "waiting" = some none)
    (n_sEp : PySem.W.findIn K (.ref Cs) "epoch" = some none)
    (n_sMan : PySem.W.findIn K (.ref Cs) "many" = some none)
    (n_sSt : PySem.W.findIn K (.ref Cs) "stand" = some none)
    (n_sRs : PySem.W.findIn K (.ref Cs) "rows" = some none)
    (n_sRow : PySem.W.findIn K (.ref Cs) "row" = some none)
    (n_sTk : PySem.W.findIn K (.ref Cs) "taken" = some none)
    (n_cKe : PySem.W.findIn K (.ref Cc) "keepers" = some none)
    (n_cSe : PySem.W.findIn K (.ref Cc) "sequencers" = some none)
    (n_cLe : PySem.W.findIn K (.ref Cc) "letters" = some none)
    (z_isi : PySem.W.nsIn K mainGlobals "isinstance" = some none)
    (z_int : PySem.W.nsIn K mainGlobals "int" = some none)
    (z_bool : PySem.W.nsIn K mainGlobals "bool" = some none)
    (z_len : PySem.W.nsIn K mainGlobals "len" = some none)
    (z_max : PySem.W.nsIn K mainGlobals "max" = some none)
    (z_range : PySem.W.nsIn K mainGlobals "range" = some none)
    (z_tuple : PySem.W.nsIn K mainGlobals "tuple" = some none)
    (z_list : PySem.W.nsIn K mainGlobals "list" = some none)
    (z_sorted : PySem.W.nsIn K mainGlobals "sorted" = some none)
    (z_abs : PySem.W.nsIn K mainGlobals "abs" = some none)
    (z_super : PySem.W.nsIn K mainGlobals "super" = some none)
    (gA : PySem.W.nsIn K mainGlobals "ASKING" = some (some (.str "asking" tA)))
    (gL : PySem.W.nsIn K mainGlobals "LEADING" = some (some (.str "leading" tL)))
    (gS : PySem.W.nsIn K mainGlobals "STOPPED" = some (some (.str "stopped" tS)))
    (gM : PySem.W.nsIn K mainGlobals "MOST_EPOCH" = some (some (.int 999999999999 tM)))
    (aB : PySem.W.nsIn K mainGlobals "BadName" = some (some (.ref Cb)))
    (aE : PySem.W.nsIn K mainGlobals "CallError" = some (some (.ref CE)))
    (xB : K.lookup Cb = some (excClassObj nmB qB Cb NB bsB (PySem.K49X.exMro CE) true snB subB abB colB ddB m0 m1 m2 m3 m5 "Exception.__new__"))
    (neB : CE ≠ Cb)
    (iE : PySem.W.findIn K (.ref CE) "__init__" = some (some (.builtin "Exception.__init__")))
    (xE : PySem.W.clsIn K CE = some cdE)
    (mE : cdE.mro = PySem.K49X.exMro CE)
    (hop : PySem.W.nsIn K cStatics "thirdparty.any" = some none)
    (saB : PySem.W.findIn K (.ref Cb) "__setattr__" = some (some (.builtin "object.__setattr__")))
    (gaB : PySem.W.findIn K (.ref Cb) "__getattribute__" = some (some (.builtin "BaseException.__getattribute__")))
    (ggB : PySem.W.findIn K (.ref Cb) "__getattr__" = some none)
    (nnB : PySem.W.findIn K (.ref Cb) "name" = some none)
    (iB : PySem.W.findIn K (.ref Cb) "__init__" = some (some (.ref fB)))
    (tB : PySem.W.typeIn K (.ref fB) = some (.type "function"))
    (kB : PySem.W.keepIn K (.ref Cb) = true)
    (eB : PySem.W.subIn K (.ref Cb) (.type "BaseException") = some true)
    (eeB : PySem.W.subIn K (.ref Cb) (.type "Exception") = some true)
    (tyB : PySem.W.typeIn K (.ref Cb) = some (.type "type"))
    (hdB : PySem.W.hasDictIn K Cb = true)
    (isB : PySem.W.isClsIn K Cb = true)
    (ssB : PySem.W.subIn K (.ref Cb) (.ref Cb) = some true)
    (lB : K.lookup fB = some ⟨ocB, odB, .func (PySem.W.ksFn "__init__" "BadName.__init__" (defArgs sBad) (defBody sBad) (defScope sBad) .none kVB docB pmB anB (.ref cda) ctB cc), oslB⟩)
    (coB : PySem.W.codeIn K (.ref cda) "BadName.__init__" = true)
    (ccB : K.lookup cc = some ⟨clB, cldB, .cell (some (.ref Cb)), cslB⟩)
    (cdB : K.lookup cda = some ⟨cclB, cddB, .fields vsB, ccsB⟩)
    (vsE : vsB[2]? = some (.str "/claim/cut.py" tfB))
    (fiB : ((l.prog.main.file : Str) == ("/claim/cut.py" : Str)) = true)
    (toB : (l.prog.main.scope.names.lookup ("super" : Str)).isSome = false)
    : ∃ fd : FuncData, (∀ (s : Shared) (v : Value), BindsTo s fd ⟨[v], []⟩ [("_law_script", v)]) ∧ ∀ base : Heap, K.In base → base.Ns mainGlobals mg → FnOk l.prog w K mg base CX0 8 fa fd ["_law_script"] (spLaw K) := by
  have e := hfa.symm.trans (PySem.W.mg_of X G aLa)
  cases e
  have B : Blt mg := ⟨PySem.W.mg_none_of X G z_isi, PySem.W.mg_none_of X G z_int, PySem.W.mg_none_of X G z_bool, PySem.W.mg_none_of X G z_len, PySem.W.mg_none_of X G z_max, PySem.W.mg_none_of X G z_range, PySem.W.mg_none_of X G z_tuple, PySem.W.mg_none_of X G z_list, PySem.W.mg_none_of X G z_sorted, PySem.W.mg_none_of X G z_abs⟩
  have T : Txt K mg Cr Ck Cs Cc := ⟨B, ⟨pgR, hdR, poR, saR⟩, ⟨pgK, hdK, poK, saK⟩, ⟨pgS, hdS, poS, saS⟩, ⟨pgC, hdC, poC, saC⟩, n_rEp, n_rRow, n_kNum, n_kRec, n_kLoo, n_kWai, n_sEp, n_sMan, n_sSt, n_sRs, n_sRow, n_sTk, n_cKe, n_cSe, n_cLe, PySem.W.mg_of X G aCR, PySem.W.mg_of X G aCK, PySem.W.mg_of X G aCS, PySem.W.mg_of X G aCC, ⟨tA, PySem.W.mg_of X G gA⟩, ⟨tL, PySem.W.mg_of X G gL⟩, ⟨tS, PySem.W.mg_of X G gS⟩, ⟨tM, PySem.W.mg_of X G gM⟩⟩
  have TB : PySem.K49X.BadTxt l.prog K mg Cb CE fB :=
    { gC := PySem.W.mg_of X G aB, gS := PySem.W.mg_none_of X G z_super, cls := ⟨nmB, qB, NB, bsB, snB, subB, abB, colB, ddB, m0, m1, m2, m3, m5, xB⟩, ne := neB, along := along_of iE xE mE, hop := hop, sa := saB, ga := gaB, gg := ggB, noN := nnB, iC := iB, tC := tB, kC := kB,
      exC := eB, exE := eeB, tyC := tyB, hdC := hdB, te := exm_self eB isB tyB ssB, file := fiB, tops := toB, fn := ⟨_, _, _, _, _, _, _, _, _, _, _, _, _, _, _, _, _, _, lB, coB, ccB, cdB, vsE⟩ }
  have FWh := fun_mk (st := sWhole) lWh cWh kWh
  have FMo := fun_mk (st := sMost) lMo cMo kMo
  have FNe := fun_mk (st := sNewest) lNe cNe kNe
  have FNu := fun_mk (st := sNumber) lNu cNu kNu
  have FTa := fun_mk (st := sTake) lTa cTa kTa
  have FPi := fun_mk (st := sPick) lPi cPi kPi
  have FLo := fun_mk (st := sLooks) lLo cLo kLo
  have FBr := fun_mk (st := sBring) lBr cBr kBr
  have FBa := fun_mk (st := sBars) lBa cBa kBa
  have FLa := fun_mk (st := sLaw) lLa cLa kLa
  have FRi := fun_mk (st := sRecInit) lRi cRi kRi
  have FRp := fun_mk (st := sRecPut) lRp cRp kRp
  have FRf := fun_mk (st := sRecFits) lRf cRf kRf
  have FKi := fun_mk (st := sKpInit) lKi cKi kKi
  have FKk := fun_mk (st := sKpKept) lKk cKk kKk
  have FKh := fun_mk (st := sKpHandle) lKh cKh kKh
  have FKt := fun_mk (st := sKpTake) lKt cKt kKt
  have FKf := fun_mk (st := sKpFlush) lKf cKf kKf
  have FKa := fun_mk (st := sKpFall) lKa cKa kKa
  have FSi := fun_mk (st := sSqInit) lSi cSi kSi
  have FSs := fun_mk (st := sSqSend) lSs cSs kSs
  have FSh := fun_mk (st := sSqHear) lSh cSh kSh
  have FSa := fun_mk (st := sSqAdd) lSa cSa kSa
  have FSe := fun_mk (st := sSqSettled) lSe cSe kSe
  have FCi := fun_mk (st := sCnInit) lCi cCi kCi
  have FCb := fun_mk (st := sCnBegin) lCb cCb kCb
  have FCs_ := fun_mk (st := sCnSend) lCs_ cCs_ kCs_
  have FCd := fun_mk (st := sCnDeliver) lCd cCd kCd
  have FCl := fun_mk (st := sCnLose) lCl cCl kCl
  have FCf := fun_mk (st := sCnFlush) lCf cCf kCf
  have FCa := fun_mk (st := sCnFall) lCa cCa kCa
  have FCt := fun_mk (st := sCnStop) lCt cCt kCt
  have FCe := fun_mk (st := sCnExch) lCe cCe kCe
  have bWh := FWh.binds (ps := ["thing", "low", "high"]) fun _ _ _ _ _ _ us hl => match us, hl with | [_, _, _], _ => rfl
  have bMo := FMo.binds (ps := ["many"]) fun _ _ _ _ _ _ us hl => match us, hl with | [_], _ => rfl
  have bNe := FNe.binds (ps := ["rows"]) fun _ _ _ _ _ _ us hl => match us, hl with | [_], _ => rfl
  have bNu := FNu.binds (ps := ["_law_script", "_law_index"]) fun _ _ _ _ _ _ us hl => match us, hl with | [_, _], _ => rfl
  have bTa := FTa.binds (ps := ["_law_draw", "_law_many"]) fun _ _ _ _ _ _ us hl => match us, hl with | [_, _], _ => rfl
  have bPi := FPi.binds (ps := ["_law_draw", "_law_items"]) fun _ _ _ _ _ _ us hl => match us, hl with | [_, _], _ => rfl
  have bLo := FLo.binds (ps := ["_law_keepers", "_law_sequencers"]) fun _ _ _ _ _ _ us hl => match us, hl with | [_, _], _ => rfl
  have bBr := FBr.binds (ps := ["_law_keepers", "_law_sequencers", "_law_letter"]) fun _ _ _ _ _ _ us hl => match us, hl with | [_, _, _], _ => rfl
  have bBa := FBa.binds (ps := ["_law_council", "_law_kind", "_law_thing"]) fun _ _ _ _ _ _ us hl => match us, hl with | [_, _, _], _ => rfl
  have bRi := FRi.binds (ps := ["self", "records"]) fun _ _ _ _ _ _ us hl => match us, hl with | [_, _], _ => rfl
  have bRp := FRp.binds (ps := ["self", "record"]) fun _ _ _ _ _ _ us hl => match us, hl with | [_, _], _ => rfl
  have bRf := FRf.binds (ps := ["self", "epoch", "place"]) fun _ _ _ _ _ _ us hl => match us, hl with | [_, _, _], _ => rfl
  have bKi := FKi.binds (ps := ["self", "number"]) fun _ _ _ _ _ _ us hl => match us, hl with | [_, _], _ => rfl
  have bKk := FKk.binds (ps := ["self"]) fun _ _ _ _ _ _ us hl => match us, hl with | [_], _ => rfl
  have bKh := FKh.binds (ps := ["self", "letter"]) fun _ _ _ _ _ _ us hl => match us, hl with | [_, _], _ => rfl
  have bKt := FKt.binds (ps := ["self", "known", "epoch", "place", "entry"]) fun _ _ _ _ _ _ us hl => match us, hl with | [_, _, _, _, _], _ => rfl
  have bKf := FKf.binds (ps := ["self"]) fun _ _ _ _ _ _ us hl => match us, hl with | [_], _ => rfl
  have bKa := FKa.binds (ps := ["self", "many"]) fun _ _ _ _ _ _ us hl => match us, hl with | [_, _], _ => rfl
  have bSi := FSi.binds (ps := ["self", "epoch", "many"]) fun _ _ _ _ _ _ us hl => match us, hl with | [_, _, _], _ => rfl
  have bSs := FSs.binds (ps := ["self"]) fun _ _ _ _ _ _ us hl => match us, hl with | [_], _ => rfl
  have bSh := FSh.binds (ps := ["self", "letter"]) fun _ _ _ _ _ _ us hl => match us, hl with | [_, _], _ => rfl
  have bSa := FSa.binds (ps := ["self", "entry"]) fun _ _ _ _ _ _ us hl => match us, hl with | [_, _], _ => rfl
  have bSe := FSe.binds (ps := ["self"]) fun _ _ _ _ _ _ us hl => match us, hl with | [_], _ => rfl
  have bCi := FCi.binds (ps := ["self", "many"]) fun _ _ _ _ _ _ us hl => match us, hl with | [_, _], _ => rfl
  have bCb := FCb.binds (ps := ["self", "epoch"]) fun _ _ _ _ _ _ us hl => match us, hl with | [_, _], _ => rfl
  have bCs_ := FCs_.binds (ps := ["self", "number"]) fun _ _ _ _ _ _ us hl => match us, hl with | [_, _], _ => rfl
  have bCd := FCd.binds (ps := ["self", "at", "is_kept"]) fun _ _ _ _ _ _ us hl => match us, hl with | [_, _, _], _ => rfl
  have bCl := FCl.binds (ps := ["self", "at"]) fun _ _ _ _ _ _ us hl => match us, hl with | [_, _], _ => rfl
  have bCf := FCf.binds (ps := ["self", "number"]) fun _ _ _ _ _ _ us hl => match us, hl with | [_, _], _ => rfl
  have bCa := FCa.binds (ps := ["self", "number", "many"]) fun _ _ _ _ _ _ us hl => match us, hl with | [_, _, _], _ => rfl
  have bCt := FCt.binds (ps := ["self", "number"]) fun _ _ _ _ _ _ us hl => match us, hl with | [_, _], _ => rfl
  have bCe := FCe.binds (ps := ["self", "number", "up"]) fun _ _ _ _ _ _ us hl => match us, hl with | [_, _, _], _ => rfl
  have mRp : Meth K Cr "put" fRp := ⟨aRp, iRp, kRp⟩
  have mRf : Meth K Cr "fits" fRf := ⟨aRf, iRf, kRf⟩
  have mKk : Meth K Ck "kept" fKk := ⟨aKk, iKk, kKk⟩
  have mKh : Meth K Ck "handle" fKh := ⟨aKh, iKh, kKh⟩
  have mKt : Meth K Ck "take" fKt := ⟨aKt, iKt, kKt⟩
  have mKf : Meth K Ck "flush" fKf := ⟨aKf, iKf, kKf⟩
  have mKa : Meth K Ck "fall" fKa := ⟨aKa, iKa, kKa⟩
  have mSs : Meth K Cs "to_send" fSs := ⟨aSs, iSs, kSs⟩
  have mSh : Meth K Cs "hear" fSh := ⟨aSh, iSh, kSh⟩
  have mSa : Meth K Cs "add" fSa := ⟨aSa, iSa, kSa⟩
  have mSe : Meth K Cs "settled" fSe := ⟨aSe, iSe, kSe⟩
  have mCb : Meth K Cc "begin" fCb := ⟨aCb, iCb, kCb⟩
  have mCs_ : Meth K Cc "send" fCs_ := ⟨aCs_, iCs_, kCs_⟩
  have mCd : Meth K Cc "deliver" fCd := ⟨aCd, iCd, kCd⟩
  have mCl : Meth K Cc "lose" fCl := ⟨aCl, iCl, kCl⟩
  have mCf : Meth K Cc "flush" fCf := ⟨aCf, iCf, kCf⟩
  have mCa : Meth K Cc "fall" fCa := ⟨aCa, iCa, kCa⟩
  have mCt : Meth K Cc "stop" fCt := ⟨aCt, iCt, kCt⟩
  have mCe : Meth K Cc "exchange" fCe := ⟨aCe, iCe, kCe⟩
  have MR : Mk K Cr fRi := ⟨mkR, aRi, iRi, kcR⟩
  have MK : Mk K Ck fKi := ⟨mkK, aKi, iKi, kcK⟩
  have MS : Mk K Cs fSi := ⟨mkS, aSi, iSi, kcS⟩
  have MC : Mk K Cc fCi := ⟨mkC, aCi, iCi, kcC⟩
  have gWh := PySem.W.mg_of X G aWh
  have gMo := PySem.W.mg_of X G aMo
  have gNe := PySem.W.mg_of X G aNe
  have gNu := PySem.W.mg_of X G aNu
  have gTa := PySem.W.mg_of X G aTa
  have gPi := PySem.W.mg_of X G aPi
  have gLo := PySem.W.mg_of X G aLo
  have gBr := PySem.W.mg_of X G aBr
  have gBa := PySem.W.mg_of X G aBa
  refine ⟨PySem.W.fnOf "law" "law" (defArgs sLaw) (defBody sLaw) (defScope sLaw) .none kVLa dcLa pmLa anLa cdLa ctLa, fun s v => .of_eq rfl, fun base _ _ => ?_⟩
  have GWh : FnOk l.prog w K mg base CX0 1 fWh _ _ _ := ok_whole FWh B
  have GMo : FnOk l.prog w K mg base CX0 1 fMo _ _ _ := ok_most FMo
  have GNe : FnOk l.prog w K mg base CX0 1 fNe _ _ _ := ok_newest FNe T
  have GRp : FnOk l.prog w K mg base CX0 1 fRp _ _ _ := ok_recPut FRp T
  have GRi : FnOk l.prog w K mg base CX0 2 fRi _ _ _ := ok_recInit FRi T GRp bRp mRp
  have GRf : FnOk l.prog w K mg base CX0 1 fRf _ _ _ := ok_recFits FRf T
  have GKi : FnOk l.prog w K mg base CX0 1 fKi _ _ _ := ok_kpInit FKi T
  have GKk : FnOk l.prog w K mg base CX0 4 fKk _ _ _ := ok_kpKept FKk T GRi bRi MR
  have GKf : FnOk l.prog w K mg base CX0 1 fKf _ _ _ := ok_kpFlush FKf T
  have GKa : FnOk l.prog w K mg base CX0 2 fKa _ _ _ := ok_kpFall FKa T GWh bWh gWh kWh
  have GKt : FnOk l.prog w K mg base CX0 2 fKt _ _ _ := ok_kpTake FKt T GRf bRf mRf
  have GKh : FnOk l.prog w K mg base CX0 5 fKh _ _ _ := ok_kpHandle FKh T GKk bKk mKk GKt bKt mKt
  have GSi : FnOk l.prog w K mg base CX0 1 fSi _ _ _ := ok_sqInit FSi T
  have GSa : FnOk l.prog w K mg base CX0 1 fSa _ _ _ := ok_sqAdd FSa T
  have GSe : FnOk l.prog w K mg base CX0 2 fSe _ _ _ := ok_sqSettled FSe T GMo bMo gMo kMo
  have GSs : FnOk l.prog w K mg base CX0 1 fSs _ _ _ := ok_sqSend FSs T
  have GSh : FnOk l.prog w K mg base CX0 2 fSh _ _ _ := ok_sqHear FSh T GNe bNe gNe kNe GMo bMo gMo kMo
  have GCi : FnOk l.prog w K mg base CX0 3 fCi _ _ _ := ok_cnInit FCi T GKi bKi MK
  have GCb : FnOk l.prog w K mg base (L2.CX l.prog w) 3 fCb _ _ _ := ok_cnBegin FCb T TB GWh bWh gWh kWh GSi bSi MS
  have GCs_ : FnOk l.prog w K mg base CX0 2 fCs_ _ _ _ := ok_cnSend FCs_ T GSs bSs mSs
  have GCd : FnOk l.prog w K mg base (L2.CX l.prog w) 6 fCd _ _ _ := ok_cnDeliver FCd T TB GWh bWh gWh kWh GKh bKh mKh GSh bSh mSh
  have GCl : FnOk l.prog w K mg base (L2.CX l.prog w) 2 fCl _ _ _ := ok_cnLose FCl T TB GWh bWh gWh kWh
  have GCf : FnOk l.prog w K mg base CX0 2 fCf _ _ _ := ok_cnFlush FCf T GKf bKf mKf
  have GCa : FnOk l.prog w K mg base CX0 3 fCa _ _ _ := ok_cnFall FCa T GKa bKa mKa
  have GCt : FnOk l.prog w K mg base CX0 1 fCt _ _ _ := ok_cnStop FCt T
  have GCe : FnOk l.prog w K mg base CX0 6 fCe _ _ _ := ok_cnExch FCe T GSs bSs mSs GKf bKf mKf GKh bKh mKh GSh bSh mSh
  have GNu : FnOk l.prog w K mg base CX0 1 fNu _ _ _ := ok_num FNu B
  have GTa : FnOk l.prog w K mg base CX0 2 fTa _ _ _ := ok_take FTa B GNu bNu gNu kNu
  have GPi : FnOk l.prog w K mg base CX0 3 fPi _ _ _ := ok_pick FPi B GTa bTa gTa kTa
  have GLo : FnOk l.prog w K mg base CX0 3 fLo _ _ _ := ok_looks FLo T GSs bSs mSs GSe bSe mSe
  have GBr : FnOk l.prog w K mg base CX0 6 fBr _ _ _ := ok_bring FBr T GKh bKh mKh GSh bSh mSh
  have GBa : FnOk l.prog w K mg base CX0 7 fBa _ _ _ := ok_bars FBa T TB GCb bCb mCb GCd bCd mCd GCl bCl mCl
  exact ok_law (Cb := Cb) FLa
    { T := T, take := ⟨_, _, GTa, bTa, gTa, kTa⟩, pick := ⟨_, _, GPi, bPi, gPi, kPi⟩, looks := ⟨_, _, GLo, bLo, gLo, kLo⟩, bring := ⟨_, _, GBr, bBr, gBr, kBr⟩, bars := ⟨_, _, GBa, bBa, gBa, kBa⟩,
      cInit := ⟨_, _, GCi, bCi, MC⟩, kInit := ⟨_, _, GKi, bKi, MK⟩, sInit := ⟨_, _, GSi, bSi, MS⟩, cBegin := ⟨_, _, GCb, bCb, mCb⟩, cSend := ⟨_, _, GCs_, bCs_, mCs_⟩, cDeliver := ⟨_, _, GCd, bCd, mCd⟩, cLose := ⟨_, _, GCl, bCl, mCl⟩,
      cFlush := ⟨_, _, GCf, bCf, mCf⟩, cFall := ⟨_, _, GCa, bCa, mCa⟩, cStop := ⟨_, _, GCt, bCt, mCt⟩, cExch := ⟨_, _, GCe, bCe, mCe⟩, kFlush := ⟨_, _, GKf, bKf, mKf⟩, kFall := ⟨_, _, GKa, bKa, mKa⟩, kHandle := ⟨_, _, GKh, bKh, mKh⟩,
      sAdd := ⟨_, _, GSa, bSa, mSa⟩, sHear := ⟨_, _, GSh, bSh, mSh⟩, sSend := ⟨_, _, GSs, bSs, mSs⟩ }
theorem walk {l : PySem.W.OpenLaw} {q : Program} {loose : List Str} {XP : (Str → Option Value) → Heap → Prop} {YP : World → Heap → Prop} {d : DefRec} {K : Params → PySem.W.Frag} (hn : l.most = some 63) (hdf : d.params.defaults = [])
    (hY : ∀ (w : World) (h : Heap), YP w h → (K w.params).In h)
    (F : ∀ (w : World) (mg : Str → Option Value) (fa : Addr) (h : Heap), (K w.params).In h → h.Ns mainGlobals mg → mg d.name = some (.ref fa) →
      ∃ fd : FuncData, (∀ (s : Shared) (u : Value), BindsTo s fd ⟨[u], []⟩ [("_law_script", u)]) ∧ ∀ base : Heap, (K w.params).In base → base.Ns mainGlobals mg → FnOk l.prog w (K w.params) mg base CX0 8 fa fd ["_law_script"] (spLaw (K w.params))) :
    PySem.W.WalkO q loose XP YP l.row.toRowW d [] (fun f vs => PySem.call f vs) :=
  L2.walk_of (n := 63) (k := 8) (x := "_law_script") (CX := fun _ => CX0) (sp := fun w => spLaw (K w.params)) hn (by decide) hdf ⟨rfl, by decide, by decide⟩ hY F (fun w H a ns hl hO hS => ⟨a, ns, rfl, by
    rcases hS with (h | ⟨o, h⟩) | h
    · rcases hO a with z | ⟨o, xs, z⟩
      · rw [z] at h; cases h
      · rw [z] at h; cases h
    · exact .inl ⟨o, h⟩
    · exact .inr fun _ => .inr h, fun _ => rfl⟩) fun _ _ _ _ _ z => z
end K49

open PySem PySem.W PyProof.Rows
set_option maxRecDepth 100000 in
set_option maxHeartbeats 0 in
theorem PySem.Challenge.cw_mastcalls_k49_whole_carried_holds : PySem.Challenge.rw_mastcalls_k49_whole_carried.Holds := by
  w_on; o_law; k_head; (case hw => w_witness2)
  k_fill
  refine K49.walk (l := PySem.Challenge.rw_mastcalls_k49_whole_carried) rfl rfl (fun w h Y => PySem.W.kIn_of Y) ?F
  case F =>
    intro w mg fa h KX G hmg
    refine' K49.all_mk (l := PySem.Challenge.rw_mastcalls_k49_whole_carried) KX G hmg ?aWh ?lWh ?cWh ?kWh ?aMo ?lMo ?cMo ?kMo ?aNe ?lNe ?cNe ?kNe ?aNu ?lNu ?cNu ?kNu ?aTa ?lTa ?cTa ?kTa ?aPi ?lPi ?cPi ?kPi ?aLo ?lLo ?cLo ?kLo ?aBr ?lBr ?cBr ?kBr ?aBa ?lBa ?cBa ?kBa ?aLa ?lLa ?cLa ?kLa ?aCR ?aCK ?aCS ?aCC ?aRi ?iRi ?lRi ?cRi ?kRi ?aRp ?iRp ?lRp ?cRp ?kRp ?aRf ?iRf ?lRf ?cRf ?kRf ?aKi ?iKi ?lKi ?cKi ?kKi ?aKk ?iKk ?lKk ?cKk ?kKk ?aKh ?iKh ?lKh ?cKh ?kKh ?aKt ?iKt ?lKt ?cKt ?kKt ?aKf ?iKf ?lKf ?cKf ?kKf ?aKa ?iKa ?lKa ?cKa ?kKa ?aSi ?iSi ?lSi ?cSi ?kSi ?aSs ?iSs ?lSs ?cSs ?kSs ?aSh ?iSh ?lSh ?cSh ?kSh ?aSa ?iSa ?lSa ?cSa ?kSa ?aSe ?iSe ?lSe ?cSe ?kSe ?aCi ?iCi ?lCi ?cCi ?kCi ?aCb ?iCb ?lCb ?cCb ?kCb ?aCs_ ?iCs_ ?lCs_ ?cCs_ ?kCs_ ?aCd ?iCd ?lCd ?cCd ?kCd ?aCl ?iCl ?lCl ?cCl ?kCl ?aCf ?iCf ?lCf ?cCf ?kCf ?aCa ?iCa ?lCa ?cCa ?kCa ?aCt ?iCt ?lCt ?cCt ?kCt ?aCe ?iCe ?lCe ?cCe ?kCe ?pgR ?hdR ?poR ?saR ?mkR ?kcR ?pgK ?hdK ?poK ?saK ?mkK ?kcK ?pgS ?hdS ?poS ?saS ?mkS ?kcS ?pgC ?hdC ?poC ?saC ?mkC ?kcC ?n_rEp ?n_rRow ?n_kNum ?n_kRec ?n_kLoo ?n_kWai ?n_sEp ?n_sMan ?n_sSt ?n_sRs ?n_sRow ?n_sTk ?n_cKe ?n_cSe ?n_cLe ?z_isi ?z_int ?z_bool ?z_len ?z_max ?z_range ?z_tuple ?z_list ?z_sorted ?z_abs ?z_super ?gA ?gL ?gS ?gM ?aB ?aE ?xB ?neB ?iE ?xE ?mE ?hop ?saB ?gaB ?ggB ?nnB ?iB ?tB ?kB ?eB ?eeB ?tyB ?hdB ?isB ?ssB ?lB ?coB ?ccB ?cdB ?vsE ?fiB ?toB
    (case aWh => k_is)
    (case lWh => k_is)
    (case cWh => k_is)
    (case kWh => k_is)
    (case aMo => k_is)
    (case lMo => k_is)
    (case cMo => k_is)
    (case kMo => k_is)
    (case aNe => k_is)
    (case lNe => k_is)
    (case cNe => k_is)
    (case kNe => k_is)
    (case aNu => k_is)
    (case lNu => k_is)
    (case cNu => k_is)
    (case kNu => k_is)
    (case aTa => k_is)
    (case lTa => k_is)
    (case cTa => k_is)
    (case kTa => k_is)
    (case aPi => k_is)
    (case lPi => k_is)
    (case cPi => k_is)
    (case kPi => k_is)
    (case aLo => k_is)
    (case lLo => k_is)
    (case cLo => k_is)
    (case kLo => k_is)
    (case aBr => k_is)
    (case lBr => k_is)
    (case cBr => k_is)
    (case kBr => k_is)
    (case aBa => k_is)
    (case lBa => k_is)
    (case cBa => k_is)
    (case kBa => k_is)
    (case aLa => k_is)
    (case lLa => k_is)
    (case cLa => k_is)
    (case kLa => k_is)
    (case aCR => k_is)
    (case aCK => k_is)
    (case aCS => k_is)
    (case aCC => k_is)
    (case aRi => k_is)
    (case iRi => k_is)
    (case lRi => k_is)
    (case cRi => k_is)
    (case kRi => k_is)
    (case aRp => k_is)
    (case iRp => k_is)
    (case lRp => k_is)
    (case cRp => k_is)
    (case kRp => k_is)
    (case aRf => k_is)
    (case iRf => k_is)
    (case lRf => k_is)
    (case cRf => k_is)
    (case kRf => k_is)
    (case aKi => k_is)
    (case iKi => k_is)
    (case lKi => k_is)
    (case cKi => k_is)
    (case kKi => k_is)
    (case aKk => k_is)
    (case iKk => k_is)
    (case lKk => k_is)
    (case cKk => k_is)
    (case kKk => k_is)
    (case aKh => k_is)
    (case iKh => k_is)
    (case lKh => k_is)
    (case cKh => k_is)
    (case kKh => k_is)
    (case aKt => k_is)
    (case iKt => k_is)
    (case lKt => k_is)
    (case cKt => k_is)
    (case kKt => k_is)
    (case aKf => k_is)
    (case iKf => k_is)
    (case lKf => k_is)
    (case cKf => k_is)
    (case kKf => k_is)
    (case aKa => k_is)
    (case iKa => k_is)
    (case lKa => k_is)
    (case cKa => k_is)
    (case kKa => k_is)
    (case aSi => k_is)
    (case iSi => k_is)
    (case lSi => k_is)
    (case cSi => k_is)
    (case kSi => k_is)
    (case aSs => k_is)
    (case iSs => k_is)
    (case lSs => k_is)
    (case cSs => k_is)
    (case kSs => k_is)
    (case aSh => k_is)
    (case iSh => k_is)
    (case lSh => k_is)
    (case cSh => k_is)
    (case kSh => k_is)
    (case aSa => k_is)
    (case iSa => k_is)
    (case lSa => k_is)
    (case cSa => k_is)
    (case kSa => k_is)
    (case aSe => k_is)
    (case iSe => k_is)
    (case lSe => k_is)
    (case cSe => k_is)
    (case kSe => k_is)
    (case aCi => k_is)
    (case iCi => k_is)
    (case lCi => k_is)
    (case cCi => k_is)
    (case kCi => k_is)
    (case aCb => k_is)
    (case iCb => k_is)
    (case lCb => k_is)
    (case cCb => k_is)
    (case kCb => k_is)
    (case aCs_ => k_is)
    (case iCs_ => k_is)
    (case lCs_ => k_is)
    (case cCs_ => k_is)
    (case kCs_ => k_is)
    (case aCd => k_is)
    (case iCd => k_is)
    (case lCd => k_is)
    (case cCd => k_is)
    (case kCd => k_is)
    (case aCl => k_is)
    (case iCl => k_is)
    (case lCl => k_is)
    (case cCl => k_is)
    (case kCl => k_is)
    (case aCf => k_is)
    (case iCf => k_is)
    (case lCf => k_is)
    (case cCf => k_is)
    (case kCf => k_is)
    (case aCa => k_is)
    (case iCa => k_is)
    (case lCa => k_is)
    (case cCa => k_is)
    (case kCa => k_is)
    (case aCt => k_is)
    (case iCt => k_is)
    (case lCt => k_is)
    (case cCt => k_is)
    (case kCt => k_is)
    (case aCe => k_is)
    (case iCe => k_is)
    (case lCe => k_is)
    (case cCe => k_is)
    (case kCe => k_is)
    (case pgR => k_is)
    (case hdR => k_is)
    (case poR => k_is)
    (case saR => k_is)
    (case mkR => k_is)
    (case kcR => k_is)
    (case pgK => k_is)
    (case hdK => k_is)
    (case poK => k_is)
    (case saK => k_is)
    (case mkK => k_is)
    (case kcK => k_is)
    (case pgS => k_is)
    (case hdS => k_is)
    (case poS => k_is)
    (case saS => k_is)
    (case mkS => k_is)
    (case kcS => k_is)
    (case pgC => k_is)
    (case hdC => k_is)
    (case poC => k_is)
    (case saC => k_is)
    (case mkC => k_is)
    (case kcC => k_is)
    (case n_rEp => k_is)
    (case n_rRow => k_is)
    (case n_kNum => k_is)
    (case n_kRec => k_is)
    (case n_kLoo => k_is)
    (case n_kWai => k_is)
    (case n_sEp => k_is)
    (case n_sMan => k_is)
    (case n_sSt => k_is)
    (case n_sRs => k_is)
    (case n_sRow => k_is)
    (case n_sTk => k_is)
    (case n_cKe => k_is)
    (case n_cSe => k_is)
    (case n_cLe => k_is)
    (case z_isi => k_is)
    (case z_int => k_is)
    (case z_bool => k_is)
    (case z_len => k_is)
    (case z_max => k_is)
    (case z_range => k_is)
    (case z_tuple => k_is)
    (case z_list => k_is)
    (case z_sorted => k_is)
    (case z_abs => k_is)
    (case z_super => k_is)
    (case gA => k_is)
    (case gL => k_is)
    (case gS => k_is)
    (case gM => k_is)
    (case aB => k_is)
    (case aE => k_is)
    (case xB => k_is)
    (case neB => decide)
    (case iE => k_is)
    (case xE => k_is)
    (case mE => rfl)
    (case hop => k_is)
    (case saB => k_is)
    (case gaB => k_is)
    (case ggB => k_is)
    (case nnB => k_is)
    (case iB => k_is)
    (case tB => k_is)
    (case kB => k_is)
    (case eB => k_is)
    (case eeB => k_is)
    (case tyB => k_is)
    (case hdB => k_is)
    (case isB => k_is)
    (case ssB => first | rfl | k_is)
    (case lB => k_is)
    (case coB => k_is)
    (case ccB => k_is)
    (case cdB => k_is)
    (case vsE => rfl)
    (case fiB => rfl)
    (case toB => rfl)
#print axioms PySem.Challenge.cw_mastcalls_k49_whole_carried_holds
